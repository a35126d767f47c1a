-- Laid for this claim by wip/tools/print2.sh, a changed copy of the kit's print (wip/tools/patch_print.py): not by print.sh.
import Derived.Test.YtceajigggcihnaaPFnExactCoarseModelx0
import Derived.Test.YtceajigggcihnaaPFnExactCoarseModelx1
import Derived.Test.YtceajigggcihnaaPFnExactCoarseModelx4
import Derived.Test.YtceajigggcihnaaPFnExactCoarseModelx8
import Derived.Test.YtceajigggcihnaaPFnExactCoarseModelx9
namespace Go.Proofs.Ytceajigggcihnaa.PFnExactCoarseModel
open Go.RowKit Go.Proofs.YtceajigggcihnaaW.PrintWords Go.Proofs.YtceajigggcihnaaW.PrintLast Go.Proofs.YtceajigggcihnaaW.PrintMore
attribute [local go_sem] max2_int min2_int max_two min_two max_three min_three max_four min_four   -- for this text's walks alone
set_option linter.unusedVariables false
set_option linter.unusedSimpArgs false

/-! ### laws_FnExactCoarseModel: function 7 -/
mutual
def laws_FnExactCoarseModel.j0 : Nat → Int → Bool → Int → Bool → Bool → Int → Int → Int → List Int → List Int → List Int → Int → Int → Int → List Int → List Int → List Int → Int → Int → Int → List Int → List Int → List Int → Int → Int → Int → List Int → List Int → List Int → Option (Bool)
 | 0, _, _, _, _, _, _, _, _, _, _, _, _, _, _, _, _, _, _, _, _, _, _, _, _, _, _, _, _, _ => none
 | k + 1, x5, x6, x9, x10, x50, x323000, x323001, x323002, x323003, x323004, x323005, x351000, x351001, x351002, x351003, x351004, x351005, x364000, x364001, x364002, x364003, x364004, x364005, x379000, x379001, x379002, x379003, x379004, x379005 => if x50 = true then (some false) else ((laws_toModel.f k x323000 x323001 x323002 x323003 x323004 x323005).bind fun bt380 => ((laws_eqModel.f k x364000 x364001 x364002 x364003 x364004 x364005 bt380.1 bt380.2.1 bt380.2.2.1 bt380.2.2.2.1 bt380.2.2.2.2.1 bt380.2.2.2.2.2).bind fun t392 => (if t392 = true then ((laws_markModel.f k x364000 x364001 x364002 x364003 x364004 x364005 1).bind fun bt393 => (if bt393.1 < 0 then (laws_FnExactCoarseModel.j1 k x5 x6 true x323000 x323001 x323002 x323003 x323004 x323005 x351000 x351001 x351002 x351003 x351004 x351005 x379000 x379001 x379002 x379003 x379004 x379005) else ((laws_eqModel.f k x379000 x379001 x379002 x379003 x379004 x379005 x351000 x351001 x351002 x351003 x351004 x351005).bind fun t397 => (if t397 = true then (if x9 = x5 then (laws_FnExactCoarseModel.j1 k x5 x6 (x10 != x6) x323000 x323001 x323002 x323003 x323004 x323005 x351000 x351001 x351002 x351003 x351004 x351005 x379000 x379001 x379002 x379003 x379004 x379005) else (laws_FnExactCoarseModel.j1 k x5 x6 true x323000 x323001 x323002 x323003 x323004 x323005 x351000 x351001 x351002 x351003 x351004 x351005 x379000 x379001 x379002 x379003 x379004 x379005)) else (laws_FnExactCoarseModel.j1 k x5 x6 true x323000 x323001 x323002 x323003 x323004 x323005 x351000 x351001 x351002 x351003 x351004 x351005 x379000 x379001 x379002 x379003 x379004 x379005))))) else (some false))))
def laws_FnExactCoarseModel.j1 : Nat → Int → Bool → Bool → Int → Int → Int → List Int → List Int → List Int → Int → Int → Int → List Int → List Int → List Int → Int → Int → Int → List Int → List Int → List Int → Option (Bool)
 | 0, _, _, _, _, _, _, _, _, _, _, _, _, _, _, _, _, _, _, _, _, _ => none
 | k + 1, x5, x6, x76, x323000, x323001, x323002, x323003, x323004, x323005, x351000, x351001, x351002, x351003, x351004, x351005, x379000, x379001, x379002, x379003, x379004, x379005 => if x76 = true then (some false) else ((laws_markModel.f k x379000 x379001 x379002 x379003 x379004 x379005 1).bind fun bt398 => ((laws_heldModel.f k x379000 x379001 x379002 bt398.2.1 bt398.2.2.1 bt398.2.2.2 1).bind fun t402 => (if t402 < 0 then (some false) else (if t402 = bt398.1 then ((laws_toModel.f k x323000 x323001 x323002 x323003 x323004 x323005).bind fun bt403 => ((impl_CoarseModel.f k bt403.1 bt403.2.1 bt403.2.2.1 bt403.2.2.2.1 bt403.2.2.2.2.1 bt403.2.2.2.2.2).bind fun bt415 => ((laws_eqModel.f k bt415.1 bt415.2.1 bt415.2.2.1 bt415.2.2.2.1 bt415.2.2.2.2.1 bt415.2.2.2.2.2.1 x351000 x351001 x351002 x351003 x351004 x351005).bind fun t430 => (if t430 = true then (if bt415.2.2.2.2.2.2.1 = x5 then (laws_FnExactCoarseModel.j2 k bt398.1 (bt415.2.2.2.2.2.2.2 != x6) x379000 x379001 x379002 bt398.2.1 bt398.2.2.1 bt398.2.2.2) else (laws_FnExactCoarseModel.j2 k bt398.1 true x379000 x379001 x379002 bt398.2.1 bt398.2.2.1 bt398.2.2.2)) else (laws_FnExactCoarseModel.j2 k bt398.1 true x379000 x379001 x379002 bt398.2.1 bt398.2.2.1 bt398.2.2.2))))) else (some false)))))
def laws_FnExactCoarseModel.j2 : Nat → Int → Bool → Int → Int → Int → List Int → List Int → List Int → Option (Bool)
 | 0, _, _, _, _, _, _, _, _ => none
 | k + 1, x12, x108, x379000, x379001, x379002, x379003, x379004, x379005 => if x108 = true then (some false) else ((laws_heldModel.f k x379000 x379001 x379002 x379003 x379004 x379005 1).bind fun t431 => (if t431 < 0 then (some false) else (if t431 = x12 then (some true) else (some false))))
end
def laws_FnExactCoarseModel.f (k : Nat) (a0_0 : Int) (a0_1 : Int) (a0_2 : Int) (l0_3 : List Int) (l0_4 : List Int) (l0_5 : List Int) : Option (Bool) := (laws_szModel.f a0_0 a0_1 a0_2 l0_3 l0_4 l0_5 1048576).bind fun t323 => (if t323 < 0 then (some true) else ((laws_toModel.f k a0_0 a0_1 a0_2 l0_3 l0_4 l0_5).bind fun bt324 => ((spec_CoarseModel.f k bt324.1 bt324.2.1 bt324.2.2.1 bt324.2.2.2.1 bt324.2.2.2.2.1 bt324.2.2.2.2.2).bind fun bt336 => ((laws_toModel.f k a0_0 a0_1 a0_2 l0_3 l0_4 l0_5).bind fun bt351 => ((impl_CoarseModel.f k bt351.1 bt351.2.1 bt351.2.2.1 bt351.2.2.2.1 bt351.2.2.2.2.1 bt351.2.2.2.2.2).bind fun bt364 => ((laws_eqModel.f k bt364.1 bt364.2.1 bt364.2.2.1 bt364.2.2.2.1 bt364.2.2.2.2.1 bt364.2.2.2.2.2.1 bt336.1 bt336.2.1 bt336.2.2.1 bt336.2.2.2.1 bt336.2.2.2.2.1 bt336.2.2.2.2.2.1).bind fun t379 => (if t379 = true then (if bt364.2.2.2.2.2.2.1 = bt336.2.2.2.2.2.2.1 then (laws_FnExactCoarseModel.j0 k bt336.2.2.2.2.2.2.1 bt336.2.2.2.2.2.2.2 bt364.2.2.2.2.2.2.1 bt364.2.2.2.2.2.2.2 (bt364.2.2.2.2.2.2.2 != bt336.2.2.2.2.2.2.2) a0_0 a0_1 a0_2 l0_3 l0_4 l0_5 bt336.1 bt336.2.1 bt336.2.2.1 bt336.2.2.2.1 bt336.2.2.2.2.1 bt336.2.2.2.2.2.1 bt351.1 bt351.2.1 bt351.2.2.1 bt351.2.2.2.1 bt351.2.2.2.2.1 bt351.2.2.2.2.2 bt364.1 bt364.2.1 bt364.2.2.1 bt364.2.2.2.1 bt364.2.2.2.2.1 bt364.2.2.2.2.2.1) else (laws_FnExactCoarseModel.j0 k bt336.2.2.2.2.2.2.1 bt336.2.2.2.2.2.2.2 bt364.2.2.2.2.2.2.1 bt364.2.2.2.2.2.2.2 true a0_0 a0_1 a0_2 l0_3 l0_4 l0_5 bt336.1 bt336.2.1 bt336.2.2.1 bt336.2.2.2.1 bt336.2.2.2.2.1 bt336.2.2.2.2.2.1 bt351.1 bt351.2.1 bt351.2.2.1 bt351.2.2.2.1 bt351.2.2.2.2.1 bt351.2.2.2.2.2 bt364.1 bt364.2.1 bt364.2.2.1 bt364.2.2.2.1 bt364.2.2.2.2.1 bt364.2.2.2.2.2.1)) else (laws_FnExactCoarseModel.j0 k bt336.2.2.2.2.2.2.1 bt336.2.2.2.2.2.2.2 bt364.2.2.2.2.2.2.1 bt364.2.2.2.2.2.2.2 true a0_0 a0_1 a0_2 l0_3 l0_4 l0_5 bt336.1 bt336.2.1 bt336.2.2.1 bt336.2.2.2.1 bt336.2.2.2.2.1 bt336.2.2.2.2.2.1 bt351.1 bt351.2.1 bt351.2.2.1 bt351.2.2.2.1 bt351.2.2.2.2.1 bt351.2.2.2.2.2 bt364.1 bt364.2.1 bt364.2.2.1 bt364.2.2.2.1 bt364.2.2.2.2.1 bt364.2.2.2.2.2.1))))))))
set_option maxHeartbeats 8000000 in
set_option maxRecDepth 100000 in
theorem laws_FnExactCoarseModel.calls (k : Nat) (a0_0 : Int) (a0_1 : Int) (a0_2 : Int) (A0_3 : Option Addr) (c0_3 : Nat) (l0_3 : List Int) (A0_4 : Option Addr) (c0_4 : Nat) (l0_4 : List Int) (A0_5 : Option Addr) (c0_5 : Nat) (l0_5 : List Int) (r : Bool) (w : World) (hr0_3 : Kd.C (Kd.int .i64) w A0_3 l0_3.length l0_3) (hc0_3 : l0_3.length ≤ c0_3) (hr0_4 : Kd.C (Kd.int .i64) w A0_4 l0_4.length l0_4) (hc0_4 : l0_4.length ≤ c0_4) (hr0_5 : Kd.C (Kd.int .i64) w A0_5 l0_5.length l0_5) (hc0_5 : l0_5.length ≤ c0_5) (h : laws_FnExactCoarseModel.f k a0_0 a0_1 a0_2 l0_3 l0_4 l0_5 = some r) :
  Calls Try.prog 7 #[.agg #[.int .i64 a0_0, .int .i64 a0_1, .int .i64 a0_2, .slice A0_3 l0_3.length c0_3, .slice A0_4 l0_4.length c0_4, .slice A0_5 l0_5.length c0_5]] w fun e w' => e = .returned (.bool r) ∧ Below w.heap.size w w' := by
 have hu26 := Try.underlying26
 have hu34 := Try.underlying34
 have HR0_3 := Aside0.mk hr0_3
 have HC0_3 := Aside0.mk hc0_3
 clear hr0_3 hc0_3
 have HR0_4 := Aside0.mk hr0_4
 have HC0_4 := Aside0.mk hc0_4
 clear hr0_4 hc0_4
 have HR0_5 := Aside0.mk hr0_5
 have HC0_5 := Aside0.mk hc0_5
 clear hr0_5 hc0_5
 have HB := Aside0.mk (Below.refl w.heap.size w)
 have H : ((laws_szModel.f a0_0 a0_1 a0_2 l0_3 l0_4 l0_5 1048576).bind fun t323 => (if t323 < 0 then (some true) else ((laws_toModel.f k a0_0 a0_1 a0_2 l0_3 l0_4 l0_5).bind fun bt324 => ((spec_CoarseModel.f k bt324.1 bt324.2.1 bt324.2.2.1 bt324.2.2.2.1 bt324.2.2.2.2.1 bt324.2.2.2.2.2).bind fun bt336 => ((laws_toModel.f k a0_0 a0_1 a0_2 l0_3 l0_4 l0_5).bind fun bt351 => ((impl_CoarseModel.f k bt351.1 bt351.2.1 bt351.2.2.1 bt351.2.2.2.1 bt351.2.2.2.2.1 bt351.2.2.2.2.2).bind fun bt364 => ((laws_eqModel.f k bt364.1 bt364.2.1 bt364.2.2.1 bt364.2.2.2.1 bt364.2.2.2.2.1 bt364.2.2.2.2.2.1 bt336.1 bt336.2.1 bt336.2.2.1 bt336.2.2.2.1 bt336.2.2.2.2.1 bt336.2.2.2.2.2.1).bind fun t379 => (if t379 = true then (if bt364.2.2.2.2.2.2.1 = bt336.2.2.2.2.2.2.1 then (laws_FnExactCoarseModel.j0 k bt336.2.2.2.2.2.2.1 bt336.2.2.2.2.2.2.2 bt364.2.2.2.2.2.2.1 bt364.2.2.2.2.2.2.2 (bt364.2.2.2.2.2.2.2 != bt336.2.2.2.2.2.2.2) a0_0 a0_1 a0_2 l0_3 l0_4 l0_5 bt336.1 bt336.2.1 bt336.2.2.1 bt336.2.2.2.1 bt336.2.2.2.2.1 bt336.2.2.2.2.2.1 bt351.1 bt351.2.1 bt351.2.2.1 bt351.2.2.2.1 bt351.2.2.2.2.1 bt351.2.2.2.2.2 bt364.1 bt364.2.1 bt364.2.2.1 bt364.2.2.2.1 bt364.2.2.2.2.1 bt364.2.2.2.2.2.1) else (laws_FnExactCoarseModel.j0 k bt336.2.2.2.2.2.2.1 bt336.2.2.2.2.2.2.2 bt364.2.2.2.2.2.2.1 bt364.2.2.2.2.2.2.2 true a0_0 a0_1 a0_2 l0_3 l0_4 l0_5 bt336.1 bt336.2.1 bt336.2.2.1 bt336.2.2.2.1 bt336.2.2.2.2.1 bt336.2.2.2.2.2.1 bt351.1 bt351.2.1 bt351.2.2.1 bt351.2.2.2.1 bt351.2.2.2.2.1 bt351.2.2.2.2.2 bt364.1 bt364.2.1 bt364.2.2.1 bt364.2.2.2.1 bt364.2.2.2.2.1 bt364.2.2.2.2.2.1)) else (laws_FnExactCoarseModel.j0 k bt336.2.2.2.2.2.2.1 bt336.2.2.2.2.2.2.2 bt364.2.2.2.2.2.2.1 bt364.2.2.2.2.2.2.2 true a0_0 a0_1 a0_2 l0_3 l0_4 l0_5 bt336.1 bt336.2.1 bt336.2.2.1 bt336.2.2.2.1 bt336.2.2.2.2.1 bt336.2.2.2.2.2.1 bt351.1 bt351.2.1 bt351.2.2.1 bt351.2.2.2.1 bt351.2.2.2.2.1 bt351.2.2.2.2.2 bt364.1 bt364.2.1 bt364.2.2.1 bt364.2.2.2.1 bt364.2.2.2.2.1 bt364.2.2.2.2.2.1))))))))) = some r := h
 clear h
 replace H := Option.bind_eq_some_iff.mp H
 obtain ⟨t323, A20, H⟩ := H
 replace H : (if t323 < 0 then (some true) else ((laws_toModel.f k a0_0 a0_1 a0_2 l0_3 l0_4 l0_5).bind fun bt324 => ((spec_CoarseModel.f k bt324.1 bt324.2.1 bt324.2.2.1 bt324.2.2.2.1 bt324.2.2.2.2.1 bt324.2.2.2.2.2).bind fun bt336 => ((laws_toModel.f k a0_0 a0_1 a0_2 l0_3 l0_4 l0_5).bind fun bt351 => ((impl_CoarseModel.f k bt351.1 bt351.2.1 bt351.2.2.1 bt351.2.2.2.1 bt351.2.2.2.2.1 bt351.2.2.2.2.2).bind fun bt364 => ((laws_eqModel.f k bt364.1 bt364.2.1 bt364.2.2.1 bt364.2.2.2.1 bt364.2.2.2.2.1 bt364.2.2.2.2.2.1 bt336.1 bt336.2.1 bt336.2.2.1 bt336.2.2.2.1 bt336.2.2.2.2.1 bt336.2.2.2.2.2.1).bind fun t379 => (if t379 = true then (if bt364.2.2.2.2.2.2.1 = bt336.2.2.2.2.2.2.1 then (laws_FnExactCoarseModel.j0 k bt336.2.2.2.2.2.2.1 bt336.2.2.2.2.2.2.2 bt364.2.2.2.2.2.2.1 bt364.2.2.2.2.2.2.2 (bt364.2.2.2.2.2.2.2 != bt336.2.2.2.2.2.2.2) a0_0 a0_1 a0_2 l0_3 l0_4 l0_5 bt336.1 bt336.2.1 bt336.2.2.1 bt336.2.2.2.1 bt336.2.2.2.2.1 bt336.2.2.2.2.2.1 bt351.1 bt351.2.1 bt351.2.2.1 bt351.2.2.2.1 bt351.2.2.2.2.1 bt351.2.2.2.2.2 bt364.1 bt364.2.1 bt364.2.2.1 bt364.2.2.2.1 bt364.2.2.2.2.1 bt364.2.2.2.2.2.1) else (laws_FnExactCoarseModel.j0 k bt336.2.2.2.2.2.2.1 bt336.2.2.2.2.2.2.2 bt364.2.2.2.2.2.2.1 bt364.2.2.2.2.2.2.2 true a0_0 a0_1 a0_2 l0_3 l0_4 l0_5 bt336.1 bt336.2.1 bt336.2.2.1 bt336.2.2.2.1 bt336.2.2.2.2.1 bt336.2.2.2.2.2.1 bt351.1 bt351.2.1 bt351.2.2.1 bt351.2.2.2.1 bt351.2.2.2.2.1 bt351.2.2.2.2.2 bt364.1 bt364.2.1 bt364.2.2.1 bt364.2.2.2.1 bt364.2.2.2.2.1 bt364.2.2.2.2.2.1)) else (laws_FnExactCoarseModel.j0 k bt336.2.2.2.2.2.2.1 bt336.2.2.2.2.2.2.2 bt364.2.2.2.2.2.2.1 bt364.2.2.2.2.2.2.2 true a0_0 a0_1 a0_2 l0_3 l0_4 l0_5 bt336.1 bt336.2.1 bt336.2.2.1 bt336.2.2.2.1 bt336.2.2.2.2.1 bt336.2.2.2.2.2.1 bt351.1 bt351.2.1 bt351.2.2.1 bt351.2.2.2.1 bt351.2.2.2.2.1 bt351.2.2.2.2.2 bt364.1 bt364.2.1 bt364.2.2.1 bt364.2.2.2.1 bt364.2.2.2.2.1 bt364.2.2.2.2.2.1)))))))) = some r := H
 have A2 := Aside0.mk A20
 clear A20
 by_cases c3 : t323 < 0
 ·rw [if_pos c3] at H
  have c3b0 : decide (t323 < 0) = true := decide_eq_true c3
  clear c3
  obtain rfl := Option.some.inj H
  go_enter Try.func7, Try.ntmps7
  go_wp2_with (first | ((with_reducible refine gate_dst (N := 1) rfl ?_); refine box_event ?hg (N := 1) ?hd (cs := #[.int .i64 a0_0, .int .i64 a0_1, .int .i64 a0_2, .slice A0_3 l0_3.length c0_3, .slice A0_4 l0_4.length c0_4, .slice A0_5 l0_5.length c0_5]) (t := 26) ?hr ?_; (case hd => rfl); (case hg => rfl); (case hr => first | (go_simp; done) | (go_simp; rfl)); intro gb322 hg w4 hbox hb; have BK322 := Aside0.mk (hbox); have GW322 := gs_ hg HB; have GE322 := gs_ hg HB; replace HB := hbs_ HB hb; clear hb hbox hg; obtain ⟨hcz5_0, hcz5_1, hcz5_2, hcz5_3, hcz5_4, hcz5_5, hfz5_0, hfz5_1, hfz5_2, hfz5_3, hfz5_4, hfz5_5⟩ := bx6 BK322) | ((with_reducible refine gate_callee (f := 11) rfl ?_); refine gl_ (some 19) Try.func11 #[.agg #[.int .i64 a0_0, .int .i64 a0_1, .int .i64 a0_2, .slice A0_3 l0_3.length c0_3, .slice A0_4 l0_4.length c0_4, .slice A0_5 l0_5.length c0_5], .int .i64 1048576] rfl rfl rfl ?_; (with_reducible refine (laws_szModel.calls a0_0 a0_1 a0_2 _ _ l0_3 _ _ l0_4 _ _ l0_5 1048576 t323 _ ?side1 ?side2 ?side3 ?side4 ?side5 ?side6 A2.out).mono ?_); (case side1 => exact Kd.C_w HR0_3 HB); (case side2 => exact HC0_3.out); (case side3 => exact Kd.C_w HR0_4 HB); (case side4 => exact HC0_4.out); (case side5 => exact Kd.C_w HR0_5 HB); (case side6 => exact HC0_5.out); rintro e w6 ⟨rfl, hb⟩; refine ⟨_, rfl, ?_⟩; replace BK322 := kb_ BK322 hb; replace HB := hbs_ HB hb; (try clear hb); (try clear hb2); (try clear hk); (try clear hi)))
  go_ret
  exact ⟨by first | rfl | (simp [errW_none, errW_some] <;> rfl) | (simp [*, errW_none, errW_some] <;> rfl), hb_ HB⟩
 ·rw [if_neg c3] at H
  have c3b0 : decide (t323 < 0) = false := decide_eq_false c3
  clear c3
  replace H := Option.bind_eq_some_iff.mp H
  obtain ⟨⟨t324, t325, t326, t327, t330, t333⟩, A70, H⟩ := H
  replace H : ((spec_CoarseModel.f k t324 t325 t326 t327 t330 t333).bind fun bt336 => ((laws_toModel.f k a0_0 a0_1 a0_2 l0_3 l0_4 l0_5).bind fun bt351 => ((impl_CoarseModel.f k bt351.1 bt351.2.1 bt351.2.2.1 bt351.2.2.2.1 bt351.2.2.2.2.1 bt351.2.2.2.2.2).bind fun bt364 => ((laws_eqModel.f k bt364.1 bt364.2.1 bt364.2.2.1 bt364.2.2.2.1 bt364.2.2.2.2.1 bt364.2.2.2.2.2.1 bt336.1 bt336.2.1 bt336.2.2.1 bt336.2.2.2.1 bt336.2.2.2.2.1 bt336.2.2.2.2.2.1).bind fun t379 => (if t379 = true then (if bt364.2.2.2.2.2.2.1 = bt336.2.2.2.2.2.2.1 then (laws_FnExactCoarseModel.j0 k bt336.2.2.2.2.2.2.1 bt336.2.2.2.2.2.2.2 bt364.2.2.2.2.2.2.1 bt364.2.2.2.2.2.2.2 (bt364.2.2.2.2.2.2.2 != bt336.2.2.2.2.2.2.2) a0_0 a0_1 a0_2 l0_3 l0_4 l0_5 bt336.1 bt336.2.1 bt336.2.2.1 bt336.2.2.2.1 bt336.2.2.2.2.1 bt336.2.2.2.2.2.1 bt351.1 bt351.2.1 bt351.2.2.1 bt351.2.2.2.1 bt351.2.2.2.2.1 bt351.2.2.2.2.2 bt364.1 bt364.2.1 bt364.2.2.1 bt364.2.2.2.1 bt364.2.2.2.2.1 bt364.2.2.2.2.2.1) else (laws_FnExactCoarseModel.j0 k bt336.2.2.2.2.2.2.1 bt336.2.2.2.2.2.2.2 bt364.2.2.2.2.2.2.1 bt364.2.2.2.2.2.2.2 true a0_0 a0_1 a0_2 l0_3 l0_4 l0_5 bt336.1 bt336.2.1 bt336.2.2.1 bt336.2.2.2.1 bt336.2.2.2.2.1 bt336.2.2.2.2.2.1 bt351.1 bt351.2.1 bt351.2.2.1 bt351.2.2.2.1 bt351.2.2.2.2.1 bt351.2.2.2.2.2 bt364.1 bt364.2.1 bt364.2.2.1 bt364.2.2.2.1 bt364.2.2.2.2.1 bt364.2.2.2.2.2.1)) else (laws_FnExactCoarseModel.j0 k bt336.2.2.2.2.2.2.1 bt336.2.2.2.2.2.2.2 bt364.2.2.2.2.2.2.1 bt364.2.2.2.2.2.2.2 true a0_0 a0_1 a0_2 l0_3 l0_4 l0_5 bt336.1 bt336.2.1 bt336.2.2.1 bt336.2.2.2.1 bt336.2.2.2.2.1 bt336.2.2.2.2.2.1 bt351.1 bt351.2.1 bt351.2.2.1 bt351.2.2.2.1 bt351.2.2.2.2.1 bt351.2.2.2.2.2 bt364.1 bt364.2.1 bt364.2.2.1 bt364.2.2.2.1 bt364.2.2.2.2.1 bt364.2.2.2.2.2.1)))))) = some r := H
  have A7 := Aside0.mk A70
  clear A70
  replace H := Option.bind_eq_some_iff.mp H
  obtain ⟨⟨t336, t337, t338, t339, t342, t345, t348, t349⟩, A80, H⟩ := H
  replace H : ((laws_toModel.f k a0_0 a0_1 a0_2 l0_3 l0_4 l0_5).bind fun bt351 => ((impl_CoarseModel.f k bt351.1 bt351.2.1 bt351.2.2.1 bt351.2.2.2.1 bt351.2.2.2.2.1 bt351.2.2.2.2.2).bind fun bt364 => ((laws_eqModel.f k bt364.1 bt364.2.1 bt364.2.2.1 bt364.2.2.2.1 bt364.2.2.2.2.1 bt364.2.2.2.2.2.1 t336 t337 t338 t339 t342 t345).bind fun t379 => (if t379 = true then (if bt364.2.2.2.2.2.2.1 = t348 then (laws_FnExactCoarseModel.j0 k t348 t349 bt364.2.2.2.2.2.2.1 bt364.2.2.2.2.2.2.2 (bt364.2.2.2.2.2.2.2 != t349) a0_0 a0_1 a0_2 l0_3 l0_4 l0_5 t336 t337 t338 t339 t342 t345 bt351.1 bt351.2.1 bt351.2.2.1 bt351.2.2.2.1 bt351.2.2.2.2.1 bt351.2.2.2.2.2 bt364.1 bt364.2.1 bt364.2.2.1 bt364.2.2.2.1 bt364.2.2.2.2.1 bt364.2.2.2.2.2.1) else (laws_FnExactCoarseModel.j0 k t348 t349 bt364.2.2.2.2.2.2.1 bt364.2.2.2.2.2.2.2 true a0_0 a0_1 a0_2 l0_3 l0_4 l0_5 t336 t337 t338 t339 t342 t345 bt351.1 bt351.2.1 bt351.2.2.1 bt351.2.2.2.1 bt351.2.2.2.2.1 bt351.2.2.2.2.2 bt364.1 bt364.2.1 bt364.2.2.1 bt364.2.2.2.1 bt364.2.2.2.2.1 bt364.2.2.2.2.2.1)) else (laws_FnExactCoarseModel.j0 k t348 t349 bt364.2.2.2.2.2.2.1 bt364.2.2.2.2.2.2.2 true a0_0 a0_1 a0_2 l0_3 l0_4 l0_5 t336 t337 t338 t339 t342 t345 bt351.1 bt351.2.1 bt351.2.2.1 bt351.2.2.2.1 bt351.2.2.2.2.1 bt351.2.2.2.2.2 bt364.1 bt364.2.1 bt364.2.2.1 bt364.2.2.2.1 bt364.2.2.2.2.1 bt364.2.2.2.2.2.1))))) = some r := H
  have A8 := Aside0.mk A80
  clear A80
  replace H := Option.bind_eq_some_iff.mp H
  obtain ⟨⟨t351, t352, t353, t354, t357, t360⟩, A90, H⟩ := H
  replace H : ((impl_CoarseModel.f k t351 t352 t353 t354 t357 t360).bind fun bt364 => ((laws_eqModel.f k bt364.1 bt364.2.1 bt364.2.2.1 bt364.2.2.2.1 bt364.2.2.2.2.1 bt364.2.2.2.2.2.1 t336 t337 t338 t339 t342 t345).bind fun t379 => (if t379 = true then (if bt364.2.2.2.2.2.2.1 = t348 then (laws_FnExactCoarseModel.j0 k t348 t349 bt364.2.2.2.2.2.2.1 bt364.2.2.2.2.2.2.2 (bt364.2.2.2.2.2.2.2 != t349) a0_0 a0_1 a0_2 l0_3 l0_4 l0_5 t336 t337 t338 t339 t342 t345 t351 t352 t353 t354 t357 t360 bt364.1 bt364.2.1 bt364.2.2.1 bt364.2.2.2.1 bt364.2.2.2.2.1 bt364.2.2.2.2.2.1) else (laws_FnExactCoarseModel.j0 k t348 t349 bt364.2.2.2.2.2.2.1 bt364.2.2.2.2.2.2.2 true a0_0 a0_1 a0_2 l0_3 l0_4 l0_5 t336 t337 t338 t339 t342 t345 t351 t352 t353 t354 t357 t360 bt364.1 bt364.2.1 bt364.2.2.1 bt364.2.2.2.1 bt364.2.2.2.2.1 bt364.2.2.2.2.2.1)) else (laws_FnExactCoarseModel.j0 k t348 t349 bt364.2.2.2.2.2.2.1 bt364.2.2.2.2.2.2.2 true a0_0 a0_1 a0_2 l0_3 l0_4 l0_5 t336 t337 t338 t339 t342 t345 t351 t352 t353 t354 t357 t360 bt364.1 bt364.2.1 bt364.2.2.1 bt364.2.2.2.1 bt364.2.2.2.2.1 bt364.2.2.2.2.2.1)))) = some r := H
  have A9 := Aside0.mk A90
  clear A90
  replace H := Option.bind_eq_some_iff.mp H
  obtain ⟨⟨t364, t365, t366, t367, t370, t373, t376, t377⟩, A100, H⟩ := H
  replace H : ((laws_eqModel.f k t364 t365 t366 t367 t370 t373 t336 t337 t338 t339 t342 t345).bind fun t379 => (if t379 = true then (if t376 = t348 then (laws_FnExactCoarseModel.j0 k t348 t349 t376 t377 (t377 != t349) a0_0 a0_1 a0_2 l0_3 l0_4 l0_5 t336 t337 t338 t339 t342 t345 t351 t352 t353 t354 t357 t360 t364 t365 t366 t367 t370 t373) else (laws_FnExactCoarseModel.j0 k t348 t349 t376 t377 true a0_0 a0_1 a0_2 l0_3 l0_4 l0_5 t336 t337 t338 t339 t342 t345 t351 t352 t353 t354 t357 t360 t364 t365 t366 t367 t370 t373)) else (laws_FnExactCoarseModel.j0 k t348 t349 t376 t377 true a0_0 a0_1 a0_2 l0_3 l0_4 l0_5 t336 t337 t338 t339 t342 t345 t351 t352 t353 t354 t357 t360 t364 t365 t366 t367 t370 t373))) = some r := H
  have A10 := Aside0.mk A100
  clear A100
  have HC11 := Aside0.mk H
  clear H
  go_enter Try.func7, Try.ntmps7
  go_upto_region 8 with (first | ((with_reducible refine gate_dst (N := 1) rfl ?_); refine box_event ?hg (N := 1) ?hd (cs := #[.int .i64 a0_0, .int .i64 a0_1, .int .i64 a0_2, .slice A0_3 l0_3.length c0_3, .slice A0_4 l0_4.length c0_4, .slice A0_5 l0_5.length c0_5]) (t := 26) ?hr ?_; (case hd => rfl); (case hg => rfl); (case hr => first | (go_simp; done) | (go_simp; rfl)); intro gb322 hg w12 hbox hb; have BK322 := Aside0.mk (hbox); have GW322 := gs_ hg HB; have GE322 := gs_ hg HB; replace HB := hbs_ HB hb; clear hb hbox hg; obtain ⟨hcz13_0, hcz13_1, hcz13_2, hcz13_3, hcz13_4, hcz13_5, hfz13_0, hfz13_1, hfz13_2, hfz13_3, hfz13_4, hfz13_5⟩ := bx6 BK322) | ((with_reducible refine gate_callee (f := 11) rfl ?_); refine gl_ (some 19) Try.func11 #[.agg #[.int .i64 a0_0, .int .i64 a0_1, .int .i64 a0_2, .slice A0_3 l0_3.length c0_3, .slice A0_4 l0_4.length c0_4, .slice A0_5 l0_5.length c0_5], .int .i64 1048576] rfl rfl rfl ?_; (with_reducible refine (laws_szModel.calls a0_0 a0_1 a0_2 _ _ l0_3 _ _ l0_4 _ _ l0_5 1048576 t323 _ ?side1 ?side2 ?side3 ?side4 ?side5 ?side6 A2.out).mono ?_); (case side1 => exact Kd.C_w HR0_3 HB); (case side2 => exact HC0_3.out); (case side3 => exact Kd.C_w HR0_4 HB); (case side4 => exact HC0_4.out); (case side5 => exact Kd.C_w HR0_5 HB); (case side6 => exact HC0_5.out); rintro e w14 ⟨rfl, hb⟩; refine ⟨_, rfl, ?_⟩; replace BK322 := kb_ BK322 hb; replace HB := hbs_ HB hb; (try clear hb); (try clear hb2); (try clear hk); (try clear hi); obtain ⟨hcz15_0, hcz15_1, hcz15_2, hcz15_3, hcz15_4, hcz15_5, hfz15_0, hfz15_1, hfz15_2, hfz15_3, hfz15_4, hfz15_5⟩ := bx6 BK322) | ((with_reducible refine gate_callee (f := 13) rfl ?_); refine gl_ (some 24) Try.func13 #[.agg #[.int .i64 a0_0, .int .i64 a0_1, .int .i64 a0_2, .slice A0_3 l0_3.length c0_3, .slice A0_4 l0_4.length c0_4, .slice A0_5 l0_5.length c0_5]] rfl rfl rfl ?_; (with_reducible refine (laws_toModel.calls k a0_0 a0_1 a0_2 _ _ l0_3 _ _ l0_4 _ _ l0_5 t324 t325 t326 t327 t330 t333 _ ?side1 ?side2 ?side3 ?side4 ?side5 ?side6 A7.out).mono ?_); (case side1 => exact Kd.C_w HR0_3 HB); (case side2 => exact HC0_3.out); (case side3 => exact Kd.C_w HR0_4 HB); (case side4 => exact HC0_4.out); (case side5 => exact Kd.C_w HR0_5 HB); (case side6 => exact HC0_5.out); rintro e w16 ⟨v328, v331, v334, rfl, ho0, ho1, ho2, hb⟩; refine ⟨_, rfl, ?_⟩; have HO329 := Kd.R_lo ho0 HB; have HO332 := Kd.R_lo ho1 HB; have HO335 := Kd.R_lo ho2 HB; replace BK322 := kb_ BK322 hb; replace HB := hbs_ HB hb; (try clear hb); (try clear hb2); (try clear hk); (try clear hi); (try clear ho0); (try clear ho1); (try clear ho2); obtain ⟨Ao17, co17, eo17⟩ := Kd.R_slice HO329.out; subst eo17; obtain ⟨Ao18, co18, eo18⟩ := Kd.R_slice HO332.out; subst eo18; obtain ⟨Ao19, co19, eo19⟩ := Kd.R_slice HO335.out; subst eo19) | ((with_reducible refine gate_callee (f := 33) rfl ?_); refine gl_ (some 25) Try.func33 #[.agg #[.int .i64 t324, .int .i64 t325, .int .i64 t326, .slice Ao17 t327.length co17, .slice Ao18 t330.length co18, .slice Ao19 t333.length co19]] rfl rfl rfl ?_; (with_reducible refine (spec_CoarseModel.calls k t324 t325 t326 _ _ t327 _ _ t330 _ _ t333 t336 t337 t338 t339 t342 t345 t348 t349 _ ?side1 ?side2 ?side3 ?side4 ?side5 ?side6 A8.out).mono ?_); (case side1 => exact Kd.C_o HO329); (case side2 => exact (Kd.R_reads' HO329.out).2.1); (case side3 => exact Kd.C_o HO332); (case side4 => exact (Kd.R_reads' HO332.out).2.1); (case side5 => exact Kd.C_o HO335); (case side6 => exact (Kd.R_reads' HO335.out).2.1); rintro e w20 ⟨v340, v343, v346, rfl, ho0, ho1, ho2, hb⟩; refine ⟨_, rfl, ?_⟩; have HO341 := Kd.R_lo (Kd.R_nw (Kd.R_nw (Kd.R_nw ho0 HO329) HO332) HO335) HB; have HO344 := Kd.R_lo (Kd.R_nw (Kd.R_nw (Kd.R_nw ho1 HO329) HO332) HO335) HB; have HO347 := Kd.R_lo (Kd.R_nw (Kd.R_nw (Kd.R_nw ho2 HO329) HO332) HO335) HB; replace HO329 := Kd.R_e3 HO329 ho0 ho1 ho2 hb; replace HO332 := Kd.R_e3 HO332 ho0 ho1 ho2 hb; replace HO335 := Kd.R_e3 HO335 ho0 ho1 ho2 hb; replace BK322 := kb_ BK322 hb; replace HB := hbs_ HB hb; (try clear hb); (try clear hb2); (try clear hk); (try clear hi); (try clear ho0); (try clear ho1); (try clear ho2); try clear HO329; try clear HO332; try clear HO335) | ((with_reducible refine gate_dst (N := 4) rfl ?_); refine box_event ?hg (N := 4) ?hd (cs := #[.int .i64 0, .int .i64 0, .int .i64 0, .slice none 0 0, .slice none 0 0, .slice none 0 0]) (t := 34) ?hr ?_; (case hd => rfl); (case hg => rfl); (case hr => first | (go_simp; done) | (go_simp; rfl)); intro gb350 hg w21 hbox hb; have BK350 := Aside0.mk (hbox); have GW350 := gs_ hg HB; have GE350 := gs_ hg HB; have NB322_350 := nl_ hg BK322; have NB350_322 := ng_ hg BK322; replace HO341 := Kd.R_b HO341 hb; replace HO344 := Kd.R_b HO344 hb; replace HO347 := Kd.R_b HO347 hb; replace BK322 := kb_ BK322 hb; replace HB := hbs_ HB hb; clear hb hbox hg; have hnb22 := NB350_322.out; have hnc22 := NB322_350.out; obtain ⟨hcz23_0, hcz23_1, hcz23_2, hcz23_3, hcz23_4, hcz23_5, hfz23_0, hfz23_1, hfz23_2, hfz23_3, hfz23_4, hfz23_5⟩ := bx6 BK350; obtain ⟨Ao24, co24, eo24⟩ := Kd.R_slice HO341.out; subst eo24; obtain ⟨Ao25, co25, eo25⟩ := Kd.R_slice HO344.out; subst eo25; obtain ⟨Ao26, co26, eo26⟩ := Kd.R_slice HO347.out; subst eo26; obtain ⟨hcz27_0, hcz27_1, hcz27_2, hcz27_3, hcz27_4, hcz27_5, hfz27_0, hfz27_1, hfz27_2, hfz27_3, hfz27_4, hfz27_5⟩ := bx6 BK322) | ((with_reducible refine gate_callee (f := 13) rfl ?_); refine gl_ (some 30) Try.func13 #[.agg #[.int .i64 a0_0, .int .i64 a0_1, .int .i64 a0_2, .slice A0_3 l0_3.length c0_3, .slice A0_4 l0_4.length c0_4, .slice A0_5 l0_5.length c0_5]] rfl rfl rfl ?_; (with_reducible refine (laws_toModel.calls k a0_0 a0_1 a0_2 _ _ l0_3 _ _ l0_4 _ _ l0_5 t351 t352 t353 t354 t357 t360 _ ?side1 ?side2 ?side3 ?side4 ?side5 ?side6 A9.out).mono ?_); (case side1 => exact Kd.C_below HR0_3.out (hb_ HB)); (case side2 => exact HC0_3.out); (case side3 => exact Kd.C_below HR0_4.out (hb_ HB)); (case side4 => exact HC0_4.out); (case side5 => exact Kd.C_below HR0_5.out (hb_ HB)); (case side6 => exact HC0_5.out); rintro e w28 ⟨v355, v358, v361, rfl, ho0, ho1, ho2, hb⟩; refine ⟨_, rfl, ?_⟩; have HO356 := Kd.R_lo (Kd.R_ns (Kd.R_ns (Kd.R_ns ho0 HO341 BK350) HO344 BK350) HO347 BK350) HB; have HO359 := Kd.R_lo (Kd.R_ns (Kd.R_ns (Kd.R_ns ho1 HO341 BK350) HO344 BK350) HO347 BK350) HB; have HO362 := Kd.R_lo (Kd.R_ns (Kd.R_ns (Kd.R_ns ho2 HO341 BK350) HO344 BK350) HO347 BK350) HB; replace HO341 := Kd.R_e3s HO341 BK350 ho0 ho1 ho2 hb; replace HO344 := Kd.R_e3s HO344 BK350 ho0 ho1 ho2 hb; replace HO347 := Kd.R_e3s HO347 BK350 ho0 ho1 ho2 hb; replace BK322 := kfb_ BK322 NB322_350 hb; replace HB := hbs_ HB hb; replace BK350 := Aside0.mk (blk_below (g := gb350) (o := .cells #[.int .i64 t336, .int .i64 t337, .int .i64 t338, .slice Ao24 t339.length co24, .slice Ao25 t342.length co25, .slice Ao26 t345.length co26] 34 (0, 0)) (kpq_ (kputs BK350 [(0, _), (1, _), (2, _), (3, _), (4, _), (5, _)])) hb); (try clear hb); (try clear hb2); (try clear hk); (try clear hi); (try clear ho0); (try clear ho1); (try clear ho2)) | ((with_reducible refine gate_dst (N := 7) rfl ?_); refine box_event ?hg (N := 7) ?hd (cs := #[.int .i64 0, .int .i64 0, .int .i64 0, .slice none 0 0, .slice none 0 0, .slice none 0 0]) (t := 34) ?hr ?_; (case hd => rfl); (case hg => rfl); (case hr => first | (go_simp; done) | (go_simp; rfl)); intro gb363 hg w29 hbox hb; have BK363 := Aside0.mk (hbox); have GW363 := gs_ hg HB; have GE363 := gs_ hg HB; have NB322_363 := nl_ hg BK322; have NB363_322 := ng_ hg BK322; have NB350_363 := nl_ hg BK350; have NB363_350 := ng_ hg BK350; replace HO341 := Kd.R_b HO341 hb; replace HO344 := Kd.R_b HO344 hb; replace HO347 := Kd.R_b HO347 hb; replace HO356 := Kd.R_b HO356 hb; replace HO359 := Kd.R_b HO359 hb; replace HO362 := Kd.R_b HO362 hb; replace BK322 := kb_ BK322 hb; replace BK350 := kb_ BK350 hb; replace HB := hbs_ HB hb; clear hb hbox hg; have hnb30 := NB363_322.out; have hnc30 := NB322_363.out; have hnb31 := NB363_350.out; have hnc31 := NB350_363.out; obtain ⟨hcz32_0, hcz32_1, hcz32_2, hcz32_3, hcz32_4, hcz32_5, hfz32_0, hfz32_1, hfz32_2, hfz32_3, hfz32_4, hfz32_5⟩ := bx6 BK363; obtain ⟨Ao33, co33, eo33⟩ := Kd.R_slice HO356.out; subst eo33; obtain ⟨Ao34, co34, eo34⟩ := Kd.R_slice HO359.out; subst eo34; obtain ⟨Ao35, co35, eo35⟩ := Kd.R_slice HO362.out; subst eo35) | ((with_reducible refine gate_callee (f := 34) rfl ?_); refine gl_ (some 33) Try.func34 #[.agg #[.int .i64 t351, .int .i64 t352, .int .i64 t353, .slice Ao33 t354.length co33, .slice Ao34 t357.length co34, .slice Ao35 t360.length co35]] rfl rfl rfl ?_; (with_reducible refine (impl_CoarseModel.calls k t351 t352 t353 _ _ t354 _ _ t357 _ _ t360 t364 t365 t366 t367 t370 t373 t376 t377 _ ?side1 ?side2 ?side3 ?side4 ?side5 ?side6 A10.out).mono ?_); (case side1 => exact (Kd.R_reads' (Kd.R_s HO356 BK363)).2.2); (case side2 => exact (Kd.R_reads' HO356.out).2.1); (case side3 => exact (Kd.R_reads' (Kd.R_s HO359 BK363)).2.2); (case side4 => exact (Kd.R_reads' HO359.out).2.1); (case side5 => exact (Kd.R_reads' (Kd.R_s HO362 BK363)).2.2); (case side6 => exact (Kd.R_reads' HO362.out).2.1); rintro e w36 ⟨v368, v371, v374, rfl, ho0, ho1, ho2, hb⟩; refine ⟨_, rfl, ?_⟩; have HO369 := Kd.R_lo (Kd.R_ns (Kd.R_ns (Kd.R_ns (Kd.R_ns (Kd.R_ns (Kd.R_ns ho0 HO341 BK363) HO344 BK363) HO347 BK363) HO356 BK363) HO359 BK363) HO362 BK363) HB; have HO372 := Kd.R_lo (Kd.R_ns (Kd.R_ns (Kd.R_ns (Kd.R_ns (Kd.R_ns (Kd.R_ns ho1 HO341 BK363) HO344 BK363) HO347 BK363) HO356 BK363) HO359 BK363) HO362 BK363) HB; have HO375 := Kd.R_lo (Kd.R_ns (Kd.R_ns (Kd.R_ns (Kd.R_ns (Kd.R_ns (Kd.R_ns ho2 HO341 BK363) HO344 BK363) HO347 BK363) HO356 BK363) HO359 BK363) HO362 BK363) HB; replace HO341 := Kd.R_e3s HO341 BK363 ho0 ho1 ho2 hb; replace HO344 := Kd.R_e3s HO344 BK363 ho0 ho1 ho2 hb; replace HO347 := Kd.R_e3s HO347 BK363 ho0 ho1 ho2 hb; replace HO356 := Kd.R_e3s HO356 BK363 ho0 ho1 ho2 hb; replace HO359 := Kd.R_e3s HO359 BK363 ho0 ho1 ho2 hb; replace HO362 := Kd.R_e3s HO362 BK363 ho0 ho1 ho2 hb; replace BK322 := kfb_ BK322 NB322_363 hb; replace BK350 := kfb_ BK350 NB350_363 hb; replace HB := hbs_ HB hb; replace BK363 := Aside0.mk (blk_below (g := gb363) (o := .cells #[.int .i64 t351, .int .i64 t352, .int .i64 t353, .slice Ao33 t354.length co33, .slice Ao34 t357.length co34, .slice Ao35 t360.length co35] 34 (0, 0)) (kpq_ (kputs BK363 [(0, _), (1, _), (2, _), (3, _), (4, _), (5, _)])) hb); (try clear hb); (try clear hb2); (try clear hk); (try clear hi); (try clear ho0); (try clear ho1); (try clear ho2)) | ((with_reducible refine gate_dst (N := 8) rfl ?_); refine box_event ?hg (N := 8) ?hd (cs := #[.int .i64 0, .int .i64 0, .int .i64 0, .slice none 0 0, .slice none 0 0, .slice none 0 0]) (t := 34) ?hr ?_; (case hd => rfl); (case hg => rfl); (case hr => first | (go_simp; done) | (go_simp; rfl)); intro gb378 hg w37 hbox hb; have BK378 := Aside0.mk (hbox); have GW378 := gs_ hg HB; have GE378 := gs_ hg HB; have NB322_378 := nl_ hg BK322; have NB378_322 := ng_ hg BK322; have NB350_378 := nl_ hg BK350; have NB378_350 := ng_ hg BK350; have NB363_378 := nl_ hg BK363; have NB378_363 := ng_ hg BK363; replace HO341 := Kd.R_b HO341 hb; replace HO344 := Kd.R_b HO344 hb; replace HO347 := Kd.R_b HO347 hb; replace HO356 := Kd.R_b HO356 hb; replace HO359 := Kd.R_b HO359 hb; replace HO362 := Kd.R_b HO362 hb; replace HO369 := Kd.R_b HO369 hb; replace HO372 := Kd.R_b HO372 hb; replace HO375 := Kd.R_b HO375 hb; replace BK322 := kb_ BK322 hb; replace BK350 := kb_ BK350 hb; replace BK363 := kb_ BK363 hb; replace HB := hbs_ HB hb; clear hb hbox hg; have hnb38 := NB378_322.out; have hnc38 := NB322_378.out; have hnb39 := NB378_350.out; have hnc39 := NB350_378.out; have hnb40 := NB378_363.out; have hnc40 := NB363_378.out; obtain ⟨hcz41_0, hcz41_1, hcz41_2, hcz41_3, hcz41_4, hcz41_5, hfz41_0, hfz41_1, hfz41_2, hfz41_3, hfz41_4, hfz41_5⟩ := bx6 BK378; obtain ⟨Ao42, co42, eo42⟩ := Kd.R_slice HO369.out; subst eo42; obtain ⟨Ao43, co43, eo43⟩ := Kd.R_slice HO372.out; subst eo43; obtain ⟨Ao44, co44, eo44⟩ := Kd.R_slice HO375.out; subst eo44))
  (try simp only [Act.put, List.setIfInBounds_toArray, List.set_cons_zero, List.set_cons_succ])
  go_cut [50] (fun v50 wc => ∃ (kq : Nat) (x50_10 : Bool), v50 = .bool x50_10 ∧ Aside0 (laws_FnExactCoarseModel.j0 kq t348 t349 t376 t377 x50_10 a0_0 a0_1 a0_2 l0_3 l0_4 l0_5 t336 t337 t338 t339 t342 t345 t351 t352 t353 t354 t357 t360 t364 t365 t366 t367 t370 t373 = some r) ∧ Aside0 (kq ≤ k) ∧ Aside0 (Kd.R (Kd.int .i64) 3 wc w.heap.size (fun k_ => some k_ ≠ ((.slice Ao25 t342.length co25) : Value).ownBlock ∧ some k_ ≠ ((.slice Ao26 t345.length co26) : Value).ownBlock ∧ some k_ ≠ ((.slice Ao33 t354.length co33) : Value).ownBlock ∧ some k_ ≠ ((.slice Ao34 t357.length co34) : Value).ownBlock ∧ some k_ ≠ ((.slice Ao35 t360.length co35) : Value).ownBlock ∧ some k_ ≠ ((.slice Ao42 t367.length co42) : Value).ownBlock ∧ some k_ ≠ ((.slice Ao43 t370.length co43) : Value).ownBlock ∧ some k_ ≠ ((.slice Ao44 t373.length co44) : Value).ownBlock) (.slice Ao24 t339.length co24) t339) ∧ Aside0 (Kd.R (Kd.int .i64) 3 wc w.heap.size (fun k_ => some k_ ≠ ((.slice Ao24 t339.length co24) : Value).ownBlock ∧ some k_ ≠ ((.slice Ao26 t345.length co26) : Value).ownBlock ∧ some k_ ≠ ((.slice Ao33 t354.length co33) : Value).ownBlock ∧ some k_ ≠ ((.slice Ao34 t357.length co34) : Value).ownBlock ∧ some k_ ≠ ((.slice Ao35 t360.length co35) : Value).ownBlock ∧ some k_ ≠ ((.slice Ao42 t367.length co42) : Value).ownBlock ∧ some k_ ≠ ((.slice Ao43 t370.length co43) : Value).ownBlock ∧ some k_ ≠ ((.slice Ao44 t373.length co44) : Value).ownBlock) (.slice Ao25 t342.length co25) t342) ∧ Aside0 (Kd.R (Kd.int .i64) 3 wc w.heap.size (fun k_ => some k_ ≠ ((.slice Ao24 t339.length co24) : Value).ownBlock ∧ some k_ ≠ ((.slice Ao25 t342.length co25) : Value).ownBlock ∧ some k_ ≠ ((.slice Ao33 t354.length co33) : Value).ownBlock ∧ some k_ ≠ ((.slice Ao34 t357.length co34) : Value).ownBlock ∧ some k_ ≠ ((.slice Ao35 t360.length co35) : Value).ownBlock ∧ some k_ ≠ ((.slice Ao42 t367.length co42) : Value).ownBlock ∧ some k_ ≠ ((.slice Ao43 t370.length co43) : Value).ownBlock ∧ some k_ ≠ ((.slice Ao44 t373.length co44) : Value).ownBlock) (.slice Ao26 t345.length co26) t345) ∧ Aside0 (Kd.R (Kd.int .i64) 3 wc w.heap.size (fun k_ => some k_ ≠ ((.slice Ao24 t339.length co24) : Value).ownBlock ∧ some k_ ≠ ((.slice Ao25 t342.length co25) : Value).ownBlock ∧ some k_ ≠ ((.slice Ao26 t345.length co26) : Value).ownBlock ∧ some k_ ≠ ((.slice Ao34 t357.length co34) : Value).ownBlock ∧ some k_ ≠ ((.slice Ao35 t360.length co35) : Value).ownBlock ∧ some k_ ≠ ((.slice Ao42 t367.length co42) : Value).ownBlock ∧ some k_ ≠ ((.slice Ao43 t370.length co43) : Value).ownBlock ∧ some k_ ≠ ((.slice Ao44 t373.length co44) : Value).ownBlock) (.slice Ao33 t354.length co33) t354) ∧ Aside0 (Kd.R (Kd.int .i64) 3 wc w.heap.size (fun k_ => some k_ ≠ ((.slice Ao24 t339.length co24) : Value).ownBlock ∧ some k_ ≠ ((.slice Ao25 t342.length co25) : Value).ownBlock ∧ some k_ ≠ ((.slice Ao26 t345.length co26) : Value).ownBlock ∧ some k_ ≠ ((.slice Ao33 t354.length co33) : Value).ownBlock ∧ some k_ ≠ ((.slice Ao35 t360.length co35) : Value).ownBlock ∧ some k_ ≠ ((.slice Ao42 t367.length co42) : Value).ownBlock ∧ some k_ ≠ ((.slice Ao43 t370.length co43) : Value).ownBlock ∧ some k_ ≠ ((.slice Ao44 t373.length co44) : Value).ownBlock) (.slice Ao34 t357.length co34) t357) ∧ Aside0 (Kd.R (Kd.int .i64) 3 wc w.heap.size (fun k_ => some k_ ≠ ((.slice Ao24 t339.length co24) : Value).ownBlock ∧ some k_ ≠ ((.slice Ao25 t342.length co25) : Value).ownBlock ∧ some k_ ≠ ((.slice Ao26 t345.length co26) : Value).ownBlock ∧ some k_ ≠ ((.slice Ao33 t354.length co33) : Value).ownBlock ∧ some k_ ≠ ((.slice Ao34 t357.length co34) : Value).ownBlock ∧ some k_ ≠ ((.slice Ao42 t367.length co42) : Value).ownBlock ∧ some k_ ≠ ((.slice Ao43 t370.length co43) : Value).ownBlock ∧ some k_ ≠ ((.slice Ao44 t373.length co44) : Value).ownBlock) (.slice Ao35 t360.length co35) t360) ∧ Aside0 (Kd.R (Kd.int .i64) 3 wc w.heap.size (fun k_ => some k_ ≠ ((.slice Ao24 t339.length co24) : Value).ownBlock ∧ some k_ ≠ ((.slice Ao25 t342.length co25) : Value).ownBlock ∧ some k_ ≠ ((.slice Ao26 t345.length co26) : Value).ownBlock ∧ some k_ ≠ ((.slice Ao33 t354.length co33) : Value).ownBlock ∧ some k_ ≠ ((.slice Ao34 t357.length co34) : Value).ownBlock ∧ some k_ ≠ ((.slice Ao35 t360.length co35) : Value).ownBlock ∧ some k_ ≠ ((.slice Ao43 t370.length co43) : Value).ownBlock ∧ some k_ ≠ ((.slice Ao44 t373.length co44) : Value).ownBlock) (.slice Ao42 t367.length co42) t367) ∧ Aside0 (Kd.R (Kd.int .i64) 3 wc w.heap.size (fun k_ => some k_ ≠ ((.slice Ao24 t339.length co24) : Value).ownBlock ∧ some k_ ≠ ((.slice Ao25 t342.length co25) : Value).ownBlock ∧ some k_ ≠ ((.slice Ao26 t345.length co26) : Value).ownBlock ∧ some k_ ≠ ((.slice Ao33 t354.length co33) : Value).ownBlock ∧ some k_ ≠ ((.slice Ao34 t357.length co34) : Value).ownBlock ∧ some k_ ≠ ((.slice Ao35 t360.length co35) : Value).ownBlock ∧ some k_ ≠ ((.slice Ao42 t367.length co42) : Value).ownBlock ∧ some k_ ≠ ((.slice Ao44 t373.length co44) : Value).ownBlock) (.slice Ao43 t370.length co43) t370) ∧ Aside0 (Kd.R (Kd.int .i64) 3 wc w.heap.size (fun k_ => some k_ ≠ ((.slice Ao24 t339.length co24) : Value).ownBlock ∧ some k_ ≠ ((.slice Ao25 t342.length co25) : Value).ownBlock ∧ some k_ ≠ ((.slice Ao26 t345.length co26) : Value).ownBlock ∧ some k_ ≠ ((.slice Ao33 t354.length co33) : Value).ownBlock ∧ some k_ ≠ ((.slice Ao34 t357.length co34) : Value).ownBlock ∧ some k_ ≠ ((.slice Ao35 t360.length co35) : Value).ownBlock ∧ some k_ ≠ ((.slice Ao42 t367.length co42) : Value).ownBlock ∧ some k_ ≠ ((.slice Ao43 t370.length co43) : Value).ownBlock) (.slice Ao44 t373.length co44) t373) ∧ Aside0 (wc.heap[gb322]? = some (.cells #[.int .i64 a0_0, .int .i64 a0_1, .int .i64 a0_2, (.slice A0_3 l0_3.length c0_3), (.slice A0_4 l0_4.length c0_4), (.slice A0_5 l0_5.length c0_5)] 26 (0, 0))) ∧ Aside0 (wc.heap[gb350]? = some (.cells #[.int .i64 t336, .int .i64 t337, .int .i64 t338, (.slice Ao24 t339.length co24), (.slice Ao25 t342.length co25), (.slice Ao26 t345.length co26)] 34 (0, 0))) ∧ Aside0 (wc.heap[gb363]? = some (.cells #[.int .i64 t351, .int .i64 t352, .int .i64 t353, (.slice Ao33 t354.length co33), (.slice Ao34 t357.length co34), (.slice Ao35 t360.length co35)] 34 (0, 0))) ∧ Aside0 (wc.heap[gb378]? = some (.cells #[.int .i64 t364, .int .i64 t365, .int .i64 t366, (.slice Ao42 t367.length co42), (.slice Ao43 t370.length co43), (.slice Ao44 t373.length co44)] 34 (0, 0))) ∧ Aside0 (Below w.heap.size w wc))
  case first =>
   have H := HC11.out
   clear HC11
   replace H := Option.bind_eq_some_iff.mp H
   obtain ⟨t379, A450, H⟩ := H
   replace H : (if t379 = true then (if t376 = t348 then (laws_FnExactCoarseModel.j0 k t348 t349 t376 t377 (t377 != t349) a0_0 a0_1 a0_2 l0_3 l0_4 l0_5 t336 t337 t338 t339 t342 t345 t351 t352 t353 t354 t357 t360 t364 t365 t366 t367 t370 t373) else (laws_FnExactCoarseModel.j0 k t348 t349 t376 t377 true a0_0 a0_1 a0_2 l0_3 l0_4 l0_5 t336 t337 t338 t339 t342 t345 t351 t352 t353 t354 t357 t360 t364 t365 t366 t367 t370 t373)) else (laws_FnExactCoarseModel.j0 k t348 t349 t376 t377 true a0_0 a0_1 a0_2 l0_3 l0_4 l0_5 t336 t337 t338 t339 t342 t345 t351 t352 t353 t354 t357 t360 t364 t365 t366 t367 t370 t373)) = some r := H
   have A45 := Aside0.mk A450
   clear A450
   by_cases c46 : t379 = true
   ·subst c46
    have H1 : (if t376 = t348 then (laws_FnExactCoarseModel.j0 k t348 t349 t376 t377 (t377 != t349) a0_0 a0_1 a0_2 l0_3 l0_4 l0_5 t336 t337 t338 t339 t342 t345 t351 t352 t353 t354 t357 t360 t364 t365 t366 t367 t370 t373) else (laws_FnExactCoarseModel.j0 k t348 t349 t376 t377 true a0_0 a0_1 a0_2 l0_3 l0_4 l0_5 t336 t337 t338 t339 t342 t345 t351 t352 t353 t354 t357 t360 t364 t365 t366 t367 t370 t373)) = some r := by rw [if_pos rfl] at H; exact H
    clear H
    have H := H1
    clear H1
    by_cases c47 : t376 = t348
    ·rw [if_pos c47] at H
     have c47b0 : (t376 == t348) = true := beq_iff_eq.mpr c47
     have c47b1 : (t376 != t348) = false := bne_eq_false_iff_eq.mpr c47
     clear c47
     (first | rw [c47b0] | (simp only [i64_w, i32_w]; rw [c47b0]) | skip)
     have H' := Aside0.mk H
     clear H
     have hnb48 := NB378_322.out
     have hnc48 := NB322_378.out
     have hnb49 := NB378_350.out
     have hnc49 := NB350_378.out
     have hnb50 := NB378_363.out
     have hnc50 := NB363_378.out
     have hcz51_0 : w37.cell? ⟨gb378, 0, none⟩ = some (.int .i64 0) := (blk_cell BK378.out 0).trans rfl
     have hcz51_1 : w37.cell? ⟨gb378, 1, none⟩ = some (.int .i64 0) := (blk_cell BK378.out 1).trans rfl
     have hcz51_2 : w37.cell? ⟨gb378, 2, none⟩ = some (.int .i64 0) := (blk_cell BK378.out 2).trans rfl
     have hcz51_3 : w37.cell? ⟨gb378, 3, none⟩ = some (.slice none 0 0) := (blk_cell BK378.out 3).trans rfl
     have hcz51_4 : w37.cell? ⟨gb378, 4, none⟩ = some (.slice none 0 0) := (blk_cell BK378.out 4).trans rfl
     have hcz51_5 : w37.cell? ⟨gb378, 5, none⟩ = some (.slice none 0 0) := (blk_cell BK378.out 5).trans rfl
     have hfz51_0 := blk_frozen BK378.out 0
     have hfz51_1 := blk_frozen BK378.out 1
     have hfz51_2 := blk_frozen BK378.out 2
     have hfz51_3 := blk_frozen BK378.out 3
     have hfz51_4 := blk_frozen BK378.out 4
     have hfz51_5 := blk_frozen BK378.out 5
     have hnb52 := NB350_322.out
     have hnc52 := NB322_350.out
     have hnb53 := NB350_363.out
     have hnc53 := NB363_350.out
     have hcz54_0 : w37.cell? ⟨gb350, 0, none⟩ = some (.int .i64 t336) := (blk_cell BK350.out 0).trans rfl
     have hcz54_1 : w37.cell? ⟨gb350, 1, none⟩ = some (.int .i64 t337) := (blk_cell BK350.out 1).trans rfl
     have hcz54_2 : w37.cell? ⟨gb350, 2, none⟩ = some (.int .i64 t338) := (blk_cell BK350.out 2).trans rfl
     have hcz54_3 : w37.cell? ⟨gb350, 3, none⟩ = some (.slice Ao24 t339.length co24) := (blk_cell BK350.out 3).trans rfl
     have hcz54_4 : w37.cell? ⟨gb350, 4, none⟩ = some (.slice Ao25 t342.length co25) := (blk_cell BK350.out 4).trans rfl
     have hcz54_5 : w37.cell? ⟨gb350, 5, none⟩ = some (.slice Ao26 t345.length co26) := (blk_cell BK350.out 5).trans rfl
     have hfz54_0 := blk_frozen BK350.out 0
     have hfz54_1 := blk_frozen BK350.out 1
     have hfz54_2 := blk_frozen BK350.out 2
     have hfz54_3 := blk_frozen BK350.out 3
     have hfz54_4 := blk_frozen BK350.out 4
     have hfz54_5 := blk_frozen BK350.out 5
     go_wp2_with (first | ((with_reducible refine gate_callee (f := 16) rfl ?_); refine gl_ (some 39) Try.func16 #[.agg #[.int .i64 t364, .int .i64 t365, .int .i64 t366, .slice Ao42 t367.length co42, .slice Ao43 t370.length co43, .slice Ao44 t373.length co44], .agg #[.int .i64 t336, .int .i64 t337, .int .i64 t338, .slice Ao24 t339.length co24, .slice Ao25 t342.length co25, .slice Ao26 t345.length co26]] rfl rfl rfl ?_; (with_reducible refine (laws_eqModel.calls k t364 t365 t366 _ _ t367 _ _ t370 _ _ t373 t336 t337 t338 _ _ t339 _ _ t342 _ _ t345 true _ ?side1 ?side2 ?side3 ?side4 ?side5 ?side6 ?side7 ?side8 ?side9 ?side10 ?side11 ?side12 A45.out).mono ?_); (case side1 => exact (Kd.R_reads' (Kd.R_s HO369 BK378)).2.2); (case side2 => exact (Kd.R_reads' HO369.out).2.1); (case side3 => exact (Kd.R_reads' (Kd.R_s HO372 BK378)).2.2); (case side4 => exact (Kd.R_reads' HO372.out).2.1); (case side5 => exact (Kd.R_reads' (Kd.R_s HO375 BK378)).2.2); (case side6 => exact (Kd.R_reads' HO375.out).2.1); (case side7 => exact (Kd.R_reads' (Kd.R_s HO341 BK378)).2.2); (case side8 => exact (Kd.R_reads' HO341.out).2.1); (case side9 => exact (Kd.R_reads' (Kd.R_s HO344 BK378)).2.2); (case side10 => exact (Kd.R_reads' HO344.out).2.1); (case side11 => exact (Kd.R_reads' (Kd.R_s HO347 BK378)).2.2); (case side12 => exact (Kd.R_reads' HO347.out).2.1); rintro e w55 ⟨rfl, hb⟩; refine ⟨_, rfl, ?_⟩; replace HO341 := Kd.R_sb HO341 BK378 hb; replace HO344 := Kd.R_sb HO344 BK378 hb; replace HO347 := Kd.R_sb HO347 BK378 hb; replace HO356 := Kd.R_sb HO356 BK378 hb; replace HO359 := Kd.R_sb HO359 BK378 hb; replace HO362 := Kd.R_sb HO362 BK378 hb; replace HO369 := Kd.R_sb HO369 BK378 hb; replace HO372 := Kd.R_sb HO372 BK378 hb; replace HO375 := Kd.R_sb HO375 BK378 hb; replace BK322 := kfb_ BK322 NB322_378 hb; replace BK350 := kfb_ BK350 NB350_378 hb; replace BK363 := kfb_ BK363 NB363_378 hb; replace HB := hbs_ HB hb; replace BK378 := Aside0.mk (blk_below (g := gb378) (o := .cells #[.int .i64 t364, .int .i64 t365, .int .i64 t366, .slice Ao42 t367.length co42, .slice Ao43 t370.length co43, .slice Ao44 t373.length co44] 34 (0, 0)) (kpq_ (kputs BK378 [(0, _), (1, _), (2, _), (3, _), (4, _), (5, _)])) hb); (try clear hb); (try clear hb2); (try clear hk); (try clear hi)))
     go_meet
     case rel => exact ⟨_, ((t377 != t349)), (by first | rfl | (simp; done) | (simp [*]; done)), H', ⟨by first | omega | exact Nat.le_refl _⟩, ⟨Kd.R_pp (Kd.R_mono HO341.out (fun _ hk => ⟨hk.1.1.1.1.1.1.1.1.1.1, ⟨hk.1.1.1.1.1.1.1.1.1.2, ⟨hk.1.1.1.1.1.2, ⟨hk.1.1.1.1.2, ⟨hk.1.1.1.2, ⟨hk.1.1.2, ⟨hk.1.2, hk.2⟩⟩⟩⟩⟩⟩⟩))⟩, ⟨Kd.R_pp (Kd.R_mono HO344.out (fun _ hk => ⟨hk.1.1.1.1.1.1.1.1.1.1, ⟨hk.1.1.1.1.1.1.1.1.1.2, ⟨hk.1.1.1.1.1.2, ⟨hk.1.1.1.1.2, ⟨hk.1.1.1.2, ⟨hk.1.1.2, ⟨hk.1.2, hk.2⟩⟩⟩⟩⟩⟩⟩))⟩, ⟨Kd.R_pp (Kd.R_mono HO347.out (fun _ hk => ⟨hk.1.1.1.1.1.1.1.1.1.1, ⟨hk.1.1.1.1.1.1.1.1.1.2, ⟨hk.1.1.1.1.1.2, ⟨hk.1.1.1.1.2, ⟨hk.1.1.1.2, ⟨hk.1.1.2, ⟨hk.1.2, hk.2⟩⟩⟩⟩⟩⟩⟩))⟩, ⟨Kd.R_pp (Kd.R_mono HO356.out (fun _ hk => ⟨hk.1.1.1.1.1.2, ⟨hk.1.1.1.1.2, ⟨hk.1.1.1.2, ⟨hk.1.1.1.1.1.1.1, ⟨hk.1.1.1.1.1.1.2, ⟨hk.1.1.2, ⟨hk.1.2, hk.2⟩⟩⟩⟩⟩⟩⟩))⟩, ⟨Kd.R_pp (Kd.R_mono HO359.out (fun _ hk => ⟨hk.1.1.1.1.1.2, ⟨hk.1.1.1.1.2, ⟨hk.1.1.1.2, ⟨hk.1.1.1.1.1.1.1, ⟨hk.1.1.1.1.1.1.2, ⟨hk.1.1.2, ⟨hk.1.2, hk.2⟩⟩⟩⟩⟩⟩⟩))⟩, ⟨Kd.R_pp (Kd.R_mono HO362.out (fun _ hk => ⟨hk.1.1.1.1.1.2, ⟨hk.1.1.1.1.2, ⟨hk.1.1.1.2, ⟨hk.1.1.1.1.1.1.1, ⟨hk.1.1.1.1.1.1.2, ⟨hk.1.1.2, ⟨hk.1.2, hk.2⟩⟩⟩⟩⟩⟩⟩))⟩, ⟨Kd.R_pp (Kd.R_mono HO369.out (fun _ hk => ⟨hk.1.1.1.1.1.2, ⟨hk.1.1.1.1.2, ⟨hk.1.1.1.2, ⟨hk.1.1.2, ⟨hk.1.2, ⟨hk.2, ⟨hk.1.1.1.1.1.1.1, hk.1.1.1.1.1.1.2⟩⟩⟩⟩⟩⟩⟩))⟩, ⟨Kd.R_pp (Kd.R_mono HO372.out (fun _ hk => ⟨hk.1.1.1.1.1.2, ⟨hk.1.1.1.1.2, ⟨hk.1.1.1.2, ⟨hk.1.1.2, ⟨hk.1.2, ⟨hk.2, ⟨hk.1.1.1.1.1.1.1, hk.1.1.1.1.1.1.2⟩⟩⟩⟩⟩⟩⟩))⟩, ⟨Kd.R_pp (Kd.R_mono HO375.out (fun _ hk => ⟨hk.1.1.1.1.1.2, ⟨hk.1.1.1.1.2, ⟨hk.1.1.1.2, ⟨hk.1.1.2, ⟨hk.1.2, ⟨hk.2, ⟨hk.1.1.1.1.1.1.1, hk.1.1.1.1.1.1.2⟩⟩⟩⟩⟩⟩⟩))⟩, ⟨kp_ BK322⟩, ⟨kp_ BK350⟩, ⟨kp_ BK363⟩, ⟨kp_ BK378⟩, ⟨hb_ HB⟩⟩
    ·rw [if_neg c47] at H
     have c47b0 : (t376 == t348) = false := beq_eq_false_iff_ne.mpr c47
     have c47b1 : (t376 != t348) = true := bne_iff_ne.mpr c47
     (first | rw [c47b0] | (simp only [i64_w, i32_w]; rw [c47b0]) | skip)
     have H' := Aside0.mk H
     clear H
     have hnb56 := NB378_322.out
     have hnc56 := NB322_378.out
     have hnb57 := NB378_350.out
     have hnc57 := NB350_378.out
     have hnb58 := NB378_363.out
     have hnc58 := NB363_378.out
     have hcz59_0 : w37.cell? ⟨gb378, 0, none⟩ = some (.int .i64 0) := (blk_cell BK378.out 0).trans rfl
     have hcz59_1 : w37.cell? ⟨gb378, 1, none⟩ = some (.int .i64 0) := (blk_cell BK378.out 1).trans rfl
     have hcz59_2 : w37.cell? ⟨gb378, 2, none⟩ = some (.int .i64 0) := (blk_cell BK378.out 2).trans rfl
     have hcz59_3 : w37.cell? ⟨gb378, 3, none⟩ = some (.slice none 0 0) := (blk_cell BK378.out 3).trans rfl
     have hcz59_4 : w37.cell? ⟨gb378, 4, none⟩ = some (.slice none 0 0) := (blk_cell BK378.out 4).trans rfl
     have hcz59_5 : w37.cell? ⟨gb378, 5, none⟩ = some (.slice none 0 0) := (blk_cell BK378.out 5).trans rfl
     have hfz59_0 := blk_frozen BK378.out 0
     have hfz59_1 := blk_frozen BK378.out 1
     have hfz59_2 := blk_frozen BK378.out 2
     have hfz59_3 := blk_frozen BK378.out 3
     have hfz59_4 := blk_frozen BK378.out 4
     have hfz59_5 := blk_frozen BK378.out 5
     have hnb60 := NB350_322.out
     have hnc60 := NB322_350.out
     have hnb61 := NB350_363.out
     have hnc61 := NB363_350.out
     have hcz62_0 : w37.cell? ⟨gb350, 0, none⟩ = some (.int .i64 t336) := (blk_cell BK350.out 0).trans rfl
     have hcz62_1 : w37.cell? ⟨gb350, 1, none⟩ = some (.int .i64 t337) := (blk_cell BK350.out 1).trans rfl
     have hcz62_2 : w37.cell? ⟨gb350, 2, none⟩ = some (.int .i64 t338) := (blk_cell BK350.out 2).trans rfl
     have hcz62_3 : w37.cell? ⟨gb350, 3, none⟩ = some (.slice Ao24 t339.length co24) := (blk_cell BK350.out 3).trans rfl
     have hcz62_4 : w37.cell? ⟨gb350, 4, none⟩ = some (.slice Ao25 t342.length co25) := (blk_cell BK350.out 4).trans rfl
     have hcz62_5 : w37.cell? ⟨gb350, 5, none⟩ = some (.slice Ao26 t345.length co26) := (blk_cell BK350.out 5).trans rfl
     have hfz62_0 := blk_frozen BK350.out 0
     have hfz62_1 := blk_frozen BK350.out 1
     have hfz62_2 := blk_frozen BK350.out 2
     have hfz62_3 := blk_frozen BK350.out 3
     have hfz62_4 := blk_frozen BK350.out 4
     have hfz62_5 := blk_frozen BK350.out 5
     go_wp2_with (first | ((with_reducible refine gate_callee (f := 16) rfl ?_); refine gl_ (some 39) Try.func16 #[.agg #[.int .i64 t364, .int .i64 t365, .int .i64 t366, .slice Ao42 t367.length co42, .slice Ao43 t370.length co43, .slice Ao44 t373.length co44], .agg #[.int .i64 t336, .int .i64 t337, .int .i64 t338, .slice Ao24 t339.length co24, .slice Ao25 t342.length co25, .slice Ao26 t345.length co26]] rfl rfl rfl ?_; (with_reducible refine (laws_eqModel.calls k t364 t365 t366 _ _ t367 _ _ t370 _ _ t373 t336 t337 t338 _ _ t339 _ _ t342 _ _ t345 true _ ?side1 ?side2 ?side3 ?side4 ?side5 ?side6 ?side7 ?side8 ?side9 ?side10 ?side11 ?side12 A45.out).mono ?_); (case side1 => exact (Kd.R_reads' (Kd.R_s HO369 BK378)).2.2); (case side2 => exact (Kd.R_reads' HO369.out).2.1); (case side3 => exact (Kd.R_reads' (Kd.R_s HO372 BK378)).2.2); (case side4 => exact (Kd.R_reads' HO372.out).2.1); (case side5 => exact (Kd.R_reads' (Kd.R_s HO375 BK378)).2.2); (case side6 => exact (Kd.R_reads' HO375.out).2.1); (case side7 => exact (Kd.R_reads' (Kd.R_s HO341 BK378)).2.2); (case side8 => exact (Kd.R_reads' HO341.out).2.1); (case side9 => exact (Kd.R_reads' (Kd.R_s HO344 BK378)).2.2); (case side10 => exact (Kd.R_reads' HO344.out).2.1); (case side11 => exact (Kd.R_reads' (Kd.R_s HO347 BK378)).2.2); (case side12 => exact (Kd.R_reads' HO347.out).2.1); rintro e w63 ⟨rfl, hb⟩; refine ⟨_, rfl, ?_⟩; replace HO341 := Kd.R_sb HO341 BK378 hb; replace HO344 := Kd.R_sb HO344 BK378 hb; replace HO347 := Kd.R_sb HO347 BK378 hb; replace HO356 := Kd.R_sb HO356 BK378 hb; replace HO359 := Kd.R_sb HO359 BK378 hb; replace HO362 := Kd.R_sb HO362 BK378 hb; replace HO369 := Kd.R_sb HO369 BK378 hb; replace HO372 := Kd.R_sb HO372 BK378 hb; replace HO375 := Kd.R_sb HO375 BK378 hb; replace BK322 := kfb_ BK322 NB322_378 hb; replace BK350 := kfb_ BK350 NB350_378 hb; replace BK363 := kfb_ BK363 NB363_378 hb; replace HB := hbs_ HB hb; replace BK378 := Aside0.mk (blk_below (g := gb378) (o := .cells #[.int .i64 t364, .int .i64 t365, .int .i64 t366, .slice Ao42 t367.length co42, .slice Ao43 t370.length co43, .slice Ao44 t373.length co44] 34 (0, 0)) (kpq_ (kputs BK378 [(0, _), (1, _), (2, _), (3, _), (4, _), (5, _)])) hb); (try clear hb); (try clear hb2); (try clear hk); (try clear hi)))
     go_meet
     case rel => exact ⟨_, (true), (by first | rfl | (simp; done) | (simp [*]; done)), H', ⟨by first | omega | exact Nat.le_refl _⟩, ⟨Kd.R_pp (Kd.R_mono HO341.out (fun _ hk => ⟨hk.1.1.1.1.1.1.1.1.1.1, ⟨hk.1.1.1.1.1.1.1.1.1.2, ⟨hk.1.1.1.1.1.2, ⟨hk.1.1.1.1.2, ⟨hk.1.1.1.2, ⟨hk.1.1.2, ⟨hk.1.2, hk.2⟩⟩⟩⟩⟩⟩⟩))⟩, ⟨Kd.R_pp (Kd.R_mono HO344.out (fun _ hk => ⟨hk.1.1.1.1.1.1.1.1.1.1, ⟨hk.1.1.1.1.1.1.1.1.1.2, ⟨hk.1.1.1.1.1.2, ⟨hk.1.1.1.1.2, ⟨hk.1.1.1.2, ⟨hk.1.1.2, ⟨hk.1.2, hk.2⟩⟩⟩⟩⟩⟩⟩))⟩, ⟨Kd.R_pp (Kd.R_mono HO347.out (fun _ hk => ⟨hk.1.1.1.1.1.1.1.1.1.1, ⟨hk.1.1.1.1.1.1.1.1.1.2, ⟨hk.1.1.1.1.1.2, ⟨hk.1.1.1.1.2, ⟨hk.1.1.1.2, ⟨hk.1.1.2, ⟨hk.1.2, hk.2⟩⟩⟩⟩⟩⟩⟩))⟩, ⟨Kd.R_pp (Kd.R_mono HO356.out (fun _ hk => ⟨hk.1.1.1.1.1.2, ⟨hk.1.1.1.1.2, ⟨hk.1.1.1.2, ⟨hk.1.1.1.1.1.1.1, ⟨hk.1.1.1.1.1.1.2, ⟨hk.1.1.2, ⟨hk.1.2, hk.2⟩⟩⟩⟩⟩⟩⟩))⟩, ⟨Kd.R_pp (Kd.R_mono HO359.out (fun _ hk => ⟨hk.1.1.1.1.1.2, ⟨hk.1.1.1.1.2, ⟨hk.1.1.1.2, ⟨hk.1.1.1.1.1.1.1, ⟨hk.1.1.1.1.1.1.2, ⟨hk.1.1.2, ⟨hk.1.2, hk.2⟩⟩⟩⟩⟩⟩⟩))⟩, ⟨Kd.R_pp (Kd.R_mono HO362.out (fun _ hk => ⟨hk.1.1.1.1.1.2, ⟨hk.1.1.1.1.2, ⟨hk.1.1.1.2, ⟨hk.1.1.1.1.1.1.1, ⟨hk.1.1.1.1.1.1.2, ⟨hk.1.1.2, ⟨hk.1.2, hk.2⟩⟩⟩⟩⟩⟩⟩))⟩, ⟨Kd.R_pp (Kd.R_mono HO369.out (fun _ hk => ⟨hk.1.1.1.1.1.2, ⟨hk.1.1.1.1.2, ⟨hk.1.1.1.2, ⟨hk.1.1.2, ⟨hk.1.2, ⟨hk.2, ⟨hk.1.1.1.1.1.1.1, hk.1.1.1.1.1.1.2⟩⟩⟩⟩⟩⟩⟩))⟩, ⟨Kd.R_pp (Kd.R_mono HO372.out (fun _ hk => ⟨hk.1.1.1.1.1.2, ⟨hk.1.1.1.1.2, ⟨hk.1.1.1.2, ⟨hk.1.1.2, ⟨hk.1.2, ⟨hk.2, ⟨hk.1.1.1.1.1.1.1, hk.1.1.1.1.1.1.2⟩⟩⟩⟩⟩⟩⟩))⟩, ⟨Kd.R_pp (Kd.R_mono HO375.out (fun _ hk => ⟨hk.1.1.1.1.1.2, ⟨hk.1.1.1.1.2, ⟨hk.1.1.1.2, ⟨hk.1.1.2, ⟨hk.1.2, ⟨hk.2, ⟨hk.1.1.1.1.1.1.1, hk.1.1.1.1.1.1.2⟩⟩⟩⟩⟩⟩⟩))⟩, ⟨kp_ BK322⟩, ⟨kp_ BK350⟩, ⟨kp_ BK363⟩, ⟨kp_ BK378⟩, ⟨hb_ HB⟩⟩
   ·replace c46 := Bool.eq_false_iff.mpr c46
    subst c46
    have H1 : (laws_FnExactCoarseModel.j0 k t348 t349 t376 t377 true a0_0 a0_1 a0_2 l0_3 l0_4 l0_5 t336 t337 t338 t339 t342 t345 t351 t352 t353 t354 t357 t360 t364 t365 t366 t367 t370 t373) = some r := by rw [if_neg (show ¬ (false = true) by decide)] at H; exact H
    clear H
    have H := H1
    clear H1
    have H' := Aside0.mk H
    clear H
    have hnb64 := NB378_322.out
    have hnc64 := NB322_378.out
    have hnb65 := NB378_350.out
    have hnc65 := NB350_378.out
    have hnb66 := NB378_363.out
    have hnc66 := NB363_378.out
    have hcz67_0 : w37.cell? ⟨gb378, 0, none⟩ = some (.int .i64 0) := (blk_cell BK378.out 0).trans rfl
    have hcz67_1 : w37.cell? ⟨gb378, 1, none⟩ = some (.int .i64 0) := (blk_cell BK378.out 1).trans rfl
    have hcz67_2 : w37.cell? ⟨gb378, 2, none⟩ = some (.int .i64 0) := (blk_cell BK378.out 2).trans rfl
    have hcz67_3 : w37.cell? ⟨gb378, 3, none⟩ = some (.slice none 0 0) := (blk_cell BK378.out 3).trans rfl
    have hcz67_4 : w37.cell? ⟨gb378, 4, none⟩ = some (.slice none 0 0) := (blk_cell BK378.out 4).trans rfl
    have hcz67_5 : w37.cell? ⟨gb378, 5, none⟩ = some (.slice none 0 0) := (blk_cell BK378.out 5).trans rfl
    have hfz67_0 := blk_frozen BK378.out 0
    have hfz67_1 := blk_frozen BK378.out 1
    have hfz67_2 := blk_frozen BK378.out 2
    have hfz67_3 := blk_frozen BK378.out 3
    have hfz67_4 := blk_frozen BK378.out 4
    have hfz67_5 := blk_frozen BK378.out 5
    have hnb68 := NB350_322.out
    have hnc68 := NB322_350.out
    have hnb69 := NB350_363.out
    have hnc69 := NB363_350.out
    have hcz70_0 : w37.cell? ⟨gb350, 0, none⟩ = some (.int .i64 t336) := (blk_cell BK350.out 0).trans rfl
    have hcz70_1 : w37.cell? ⟨gb350, 1, none⟩ = some (.int .i64 t337) := (blk_cell BK350.out 1).trans rfl
    have hcz70_2 : w37.cell? ⟨gb350, 2, none⟩ = some (.int .i64 t338) := (blk_cell BK350.out 2).trans rfl
    have hcz70_3 : w37.cell? ⟨gb350, 3, none⟩ = some (.slice Ao24 t339.length co24) := (blk_cell BK350.out 3).trans rfl
    have hcz70_4 : w37.cell? ⟨gb350, 4, none⟩ = some (.slice Ao25 t342.length co25) := (blk_cell BK350.out 4).trans rfl
    have hcz70_5 : w37.cell? ⟨gb350, 5, none⟩ = some (.slice Ao26 t345.length co26) := (blk_cell BK350.out 5).trans rfl
    have hfz70_0 := blk_frozen BK350.out 0
    have hfz70_1 := blk_frozen BK350.out 1
    have hfz70_2 := blk_frozen BK350.out 2
    have hfz70_3 := blk_frozen BK350.out 3
    have hfz70_4 := blk_frozen BK350.out 4
    have hfz70_5 := blk_frozen BK350.out 5
    go_wp2_with (first | ((with_reducible refine gate_callee (f := 16) rfl ?_); refine gl_ (some 39) Try.func16 #[.agg #[.int .i64 t364, .int .i64 t365, .int .i64 t366, .slice Ao42 t367.length co42, .slice Ao43 t370.length co43, .slice Ao44 t373.length co44], .agg #[.int .i64 t336, .int .i64 t337, .int .i64 t338, .slice Ao24 t339.length co24, .slice Ao25 t342.length co25, .slice Ao26 t345.length co26]] rfl rfl rfl ?_; (with_reducible refine (laws_eqModel.calls k t364 t365 t366 _ _ t367 _ _ t370 _ _ t373 t336 t337 t338 _ _ t339 _ _ t342 _ _ t345 false _ ?side1 ?side2 ?side3 ?side4 ?side5 ?side6 ?side7 ?side8 ?side9 ?side10 ?side11 ?side12 A45.out).mono ?_); (case side1 => exact (Kd.R_reads' (Kd.R_s HO369 BK378)).2.2); (case side2 => exact (Kd.R_reads' HO369.out).2.1); (case side3 => exact (Kd.R_reads' (Kd.R_s HO372 BK378)).2.2); (case side4 => exact (Kd.R_reads' HO372.out).2.1); (case side5 => exact (Kd.R_reads' (Kd.R_s HO375 BK378)).2.2); (case side6 => exact (Kd.R_reads' HO375.out).2.1); (case side7 => exact (Kd.R_reads' (Kd.R_s HO341 BK378)).2.2); (case side8 => exact (Kd.R_reads' HO341.out).2.1); (case side9 => exact (Kd.R_reads' (Kd.R_s HO344 BK378)).2.2); (case side10 => exact (Kd.R_reads' HO344.out).2.1); (case side11 => exact (Kd.R_reads' (Kd.R_s HO347 BK378)).2.2); (case side12 => exact (Kd.R_reads' HO347.out).2.1); rintro e w71 ⟨rfl, hb⟩; refine ⟨_, rfl, ?_⟩; replace HO341 := Kd.R_sb HO341 BK378 hb; replace HO344 := Kd.R_sb HO344 BK378 hb; replace HO347 := Kd.R_sb HO347 BK378 hb; replace HO356 := Kd.R_sb HO356 BK378 hb; replace HO359 := Kd.R_sb HO359 BK378 hb; replace HO362 := Kd.R_sb HO362 BK378 hb; replace HO369 := Kd.R_sb HO369 BK378 hb; replace HO372 := Kd.R_sb HO372 BK378 hb; replace HO375 := Kd.R_sb HO375 BK378 hb; replace BK322 := kfb_ BK322 NB322_378 hb; replace BK350 := kfb_ BK350 NB350_378 hb; replace BK363 := kfb_ BK363 NB363_378 hb; replace HB := hbs_ HB hb; replace BK378 := Aside0.mk (blk_below (g := gb378) (o := .cells #[.int .i64 t364, .int .i64 t365, .int .i64 t366, .slice Ao42 t367.length co42, .slice Ao43 t370.length co43, .slice Ao44 t373.length co44] 34 (0, 0)) (kpq_ (kputs BK378 [(0, _), (1, _), (2, _), (3, _), (4, _), (5, _)])) hb); (try clear hb); (try clear hb2); (try clear hk); (try clear hi)))
    go_meet
    case rel => exact ⟨_, (true), (by first | rfl | (simp; done) | (simp [*]; done)), H', ⟨by first | omega | exact Nat.le_refl _⟩, ⟨Kd.R_pp (Kd.R_mono HO341.out (fun _ hk => ⟨hk.1.1.1.1.1.1.1.1.1.1, ⟨hk.1.1.1.1.1.1.1.1.1.2, ⟨hk.1.1.1.1.1.2, ⟨hk.1.1.1.1.2, ⟨hk.1.1.1.2, ⟨hk.1.1.2, ⟨hk.1.2, hk.2⟩⟩⟩⟩⟩⟩⟩))⟩, ⟨Kd.R_pp (Kd.R_mono HO344.out (fun _ hk => ⟨hk.1.1.1.1.1.1.1.1.1.1, ⟨hk.1.1.1.1.1.1.1.1.1.2, ⟨hk.1.1.1.1.1.2, ⟨hk.1.1.1.1.2, ⟨hk.1.1.1.2, ⟨hk.1.1.2, ⟨hk.1.2, hk.2⟩⟩⟩⟩⟩⟩⟩))⟩, ⟨Kd.R_pp (Kd.R_mono HO347.out (fun _ hk => ⟨hk.1.1.1.1.1.1.1.1.1.1, ⟨hk.1.1.1.1.1.1.1.1.1.2, ⟨hk.1.1.1.1.1.2, ⟨hk.1.1.1.1.2, ⟨hk.1.1.1.2, ⟨hk.1.1.2, ⟨hk.1.2, hk.2⟩⟩⟩⟩⟩⟩⟩))⟩, ⟨Kd.R_pp (Kd.R_mono HO356.out (fun _ hk => ⟨hk.1.1.1.1.1.2, ⟨hk.1.1.1.1.2, ⟨hk.1.1.1.2, ⟨hk.1.1.1.1.1.1.1, ⟨hk.1.1.1.1.1.1.2, ⟨hk.1.1.2, ⟨hk.1.2, hk.2⟩⟩⟩⟩⟩⟩⟩))⟩, ⟨Kd.R_pp (Kd.R_mono HO359.out (fun _ hk => ⟨hk.1.1.1.1.1.2, ⟨hk.1.1.1.1.2, ⟨hk.1.1.1.2, ⟨hk.1.1.1.1.1.1.1, ⟨hk.1.1.1.1.1.1.2, ⟨hk.1.1.2, ⟨hk.1.2, hk.2⟩⟩⟩⟩⟩⟩⟩))⟩, ⟨Kd.R_pp (Kd.R_mono HO362.out (fun _ hk => ⟨hk.1.1.1.1.1.2, ⟨hk.1.1.1.1.2, ⟨hk.1.1.1.2, ⟨hk.1.1.1.1.1.1.1, ⟨hk.1.1.1.1.1.1.2, ⟨hk.1.1.2, ⟨hk.1.2, hk.2⟩⟩⟩⟩⟩⟩⟩))⟩, ⟨Kd.R_pp (Kd.R_mono HO369.out (fun _ hk => ⟨hk.1.1.1.1.1.2, ⟨hk.1.1.1.1.2, ⟨hk.1.1.1.2, ⟨hk.1.1.2, ⟨hk.1.2, ⟨hk.2, ⟨hk.1.1.1.1.1.1.1, hk.1.1.1.1.1.1.2⟩⟩⟩⟩⟩⟩⟩))⟩, ⟨Kd.R_pp (Kd.R_mono HO372.out (fun _ hk => ⟨hk.1.1.1.1.1.2, ⟨hk.1.1.1.1.2, ⟨hk.1.1.1.2, ⟨hk.1.1.2, ⟨hk.1.2, ⟨hk.2, ⟨hk.1.1.1.1.1.1.1, hk.1.1.1.1.1.1.2⟩⟩⟩⟩⟩⟩⟩))⟩, ⟨Kd.R_pp (Kd.R_mono HO375.out (fun _ hk => ⟨hk.1.1.1.1.1.2, ⟨hk.1.1.1.1.2, ⟨hk.1.1.1.2, ⟨hk.1.1.2, ⟨hk.1.2, ⟨hk.2, ⟨hk.1.1.1.1.1.1.1, hk.1.1.1.1.1.1.2⟩⟩⟩⟩⟩⟩⟩))⟩, ⟨kp_ BK322⟩, ⟨kp_ BK350⟩, ⟨kp_ BK363⟩, ⟨kp_ BK378⟩, ⟨hb_ HB⟩⟩
  case rest =>
   clear HC11
   (try clear c1); (try clear c2); (try clear p2); (try clear c3); (try clear c3b0); (try clear c4); (try clear c5); (try clear c6); (try clear c7); (try clear c11); (try clear c13); (try clear c16); (try clear c22); (try clear c30); (try clear c31); (try clear c33); (try clear c34); (try clear c38); (try clear c39); (try clear c40); (try clear c46); (try clear c47); (try clear c47b0); (try clear c47b1); (try clear c48); (try clear c49); (try clear c50); (try clear c52); (try clear c53); (try clear c56); (try clear c57); (try clear c58); (try clear c60); (try clear c61); (try clear c64); (try clear c65); (try clear c66); (try clear c68); (try clear c69); (try clear hcz13_0); (try clear hcz13_1); (try clear hcz13_2); (try clear hcz13_3); (try clear hcz13_4); (try clear hcz13_5); (try clear hcz15_0); (try clear hcz15_1); (try clear hcz15_2); (try clear hcz15_3); (try clear hcz15_4); (try clear hcz15_5); (try clear hcz23_0); (try clear hcz23_1); (try clear hcz23_2); (try clear hcz23_3); (try clear hcz23_4); (try clear hcz23_5); (try clear hcz27_0); (try clear hcz27_1); (try clear hcz27_2); (try clear hcz27_3); (try clear hcz27_4); (try clear hcz27_5); (try clear hcz32_0); (try clear hcz32_1); (try clear hcz32_2); (try clear hcz32_3); (try clear hcz32_4); (try clear hcz32_5); (try clear hcz41_0); (try clear hcz41_1); (try clear hcz41_2); (try clear hcz41_3); (try clear hcz41_4); (try clear hcz41_5); (try clear hfz13_0); (try clear hfz13_1); (try clear hfz13_2); (try clear hfz13_3); (try clear hfz13_4); (try clear hfz13_5); (try clear hfz15_0); (try clear hfz15_1); (try clear hfz15_2); (try clear hfz15_3); (try clear hfz15_4); (try clear hfz15_5); (try clear hfz23_0); (try clear hfz23_1); (try clear hfz23_2); (try clear hfz23_3); (try clear hfz23_4); (try clear hfz23_5); (try clear hfz27_0); (try clear hfz27_1); (try clear hfz27_2); (try clear hfz27_3); (try clear hfz27_4); (try clear hfz27_5); (try clear hfz32_0); (try clear hfz32_1); (try clear hfz32_2); (try clear hfz32_3); (try clear hfz32_4); (try clear hfz32_5); (try clear hfz41_0); (try clear hfz41_1); (try clear hfz41_2); (try clear hfz41_3); (try clear hfz41_4); (try clear hfz41_5)
   obtain ⟨kq, x50_10, rfl, HA, HJ10, HO_351003, HO_351004, HO_351005, HO_364003, HO_364004, HO_364005, HO_379003, HO_379004, HO_379005, BK322, BK350, BK363, BK378, HB⟩ := hcut
   cases kq with
   | zero => exact absurd HA.out (by simp [laws_FnExactCoarseModel.j0])
   | succ kj10 =>
    have H := HA.out
    clear HA
    simp only [laws_FnExactCoarseModel.j0] at H
    by_cases c72 : x50_10 = true
    ·subst c72
     have H1 : (some false) = some r := by rw [if_pos rfl] at H; exact H
     clear H
     have H := H1
     clear H1
     obtain rfl := Option.some.inj H
     go_wp2
     go_ret
     exact ⟨by first | rfl | (simp [errW_none, errW_some] <;> rfl) | (simp [*, errW_none, errW_some] <;> rfl), hb_ HB⟩
    ·replace c72 := Bool.eq_false_iff.mpr c72
     subst c72
     have H1 : ((laws_toModel.f kj10 a0_0 a0_1 a0_2 l0_3 l0_4 l0_5).bind fun bt380 => ((laws_eqModel.f kj10 t351 t352 t353 t354 t357 t360 bt380.1 bt380.2.1 bt380.2.2.1 bt380.2.2.2.1 bt380.2.2.2.2.1 bt380.2.2.2.2.2).bind fun t392 => (if t392 = true then ((laws_markModel.f kj10 t351 t352 t353 t354 t357 t360 1).bind fun bt393 => (if bt393.1 < 0 then (laws_FnExactCoarseModel.j1 kj10 t348 t349 true a0_0 a0_1 a0_2 l0_3 l0_4 l0_5 t336 t337 t338 t339 t342 t345 t364 t365 t366 t367 t370 t373) else ((laws_eqModel.f kj10 t364 t365 t366 t367 t370 t373 t336 t337 t338 t339 t342 t345).bind fun t397 => (if t397 = true then (if t376 = t348 then (laws_FnExactCoarseModel.j1 kj10 t348 t349 (t377 != t349) a0_0 a0_1 a0_2 l0_3 l0_4 l0_5 t336 t337 t338 t339 t342 t345 t364 t365 t366 t367 t370 t373) else (laws_FnExactCoarseModel.j1 kj10 t348 t349 true a0_0 a0_1 a0_2 l0_3 l0_4 l0_5 t336 t337 t338 t339 t342 t345 t364 t365 t366 t367 t370 t373)) else (laws_FnExactCoarseModel.j1 kj10 t348 t349 true a0_0 a0_1 a0_2 l0_3 l0_4 l0_5 t336 t337 t338 t339 t342 t345 t364 t365 t366 t367 t370 t373))))) else (some false)))) = some r := by rw [if_neg (show ¬ (false = true) by decide)] at H; exact H
     clear H
     have H := H1
     clear H1
     replace H := Option.bind_eq_some_iff.mp H
     obtain ⟨⟨t380, t381, t382, t383, t386, t389⟩, A730, H⟩ := H
     replace H : ((laws_eqModel.f kj10 t351 t352 t353 t354 t357 t360 t380 t381 t382 t383 t386 t389).bind fun t392 => (if t392 = true then ((laws_markModel.f kj10 t351 t352 t353 t354 t357 t360 1).bind fun bt393 => (if bt393.1 < 0 then (laws_FnExactCoarseModel.j1 kj10 t348 t349 true a0_0 a0_1 a0_2 l0_3 l0_4 l0_5 t336 t337 t338 t339 t342 t345 t364 t365 t366 t367 t370 t373) else ((laws_eqModel.f kj10 t364 t365 t366 t367 t370 t373 t336 t337 t338 t339 t342 t345).bind fun t397 => (if t397 = true then (if t376 = t348 then (laws_FnExactCoarseModel.j1 kj10 t348 t349 (t377 != t349) a0_0 a0_1 a0_2 l0_3 l0_4 l0_5 t336 t337 t338 t339 t342 t345 t364 t365 t366 t367 t370 t373) else (laws_FnExactCoarseModel.j1 kj10 t348 t349 true a0_0 a0_1 a0_2 l0_3 l0_4 l0_5 t336 t337 t338 t339 t342 t345 t364 t365 t366 t367 t370 t373)) else (laws_FnExactCoarseModel.j1 kj10 t348 t349 true a0_0 a0_1 a0_2 l0_3 l0_4 l0_5 t336 t337 t338 t339 t342 t345 t364 t365 t366 t367 t370 t373))))) else (some false))) = some r := H
     have A73 := Aside0.mk A730
     clear A730
     replace H := Option.bind_eq_some_iff.mp H
     obtain ⟨t392, A740, H⟩ := H
     replace H : (if t392 = true then ((laws_markModel.f kj10 t351 t352 t353 t354 t357 t360 1).bind fun bt393 => (if bt393.1 < 0 then (laws_FnExactCoarseModel.j1 kj10 t348 t349 true a0_0 a0_1 a0_2 l0_3 l0_4 l0_5 t336 t337 t338 t339 t342 t345 t364 t365 t366 t367 t370 t373) else ((laws_eqModel.f kj10 t364 t365 t366 t367 t370 t373 t336 t337 t338 t339 t342 t345).bind fun t397 => (if t397 = true then (if t376 = t348 then (laws_FnExactCoarseModel.j1 kj10 t348 t349 (t377 != t349) a0_0 a0_1 a0_2 l0_3 l0_4 l0_5 t336 t337 t338 t339 t342 t345 t364 t365 t366 t367 t370 t373) else (laws_FnExactCoarseModel.j1 kj10 t348 t349 true a0_0 a0_1 a0_2 l0_3 l0_4 l0_5 t336 t337 t338 t339 t342 t345 t364 t365 t366 t367 t370 t373)) else (laws_FnExactCoarseModel.j1 kj10 t348 t349 true a0_0 a0_1 a0_2 l0_3 l0_4 l0_5 t336 t337 t338 t339 t342 t345 t364 t365 t366 t367 t370 t373))))) else (some false)) = some r := H
     have A74 := Aside0.mk A740
     clear A740
     by_cases c75 : t392 = true
     ·subst c75
      have H1 : ((laws_markModel.f kj10 t351 t352 t353 t354 t357 t360 1).bind fun bt393 => (if bt393.1 < 0 then (laws_FnExactCoarseModel.j1 kj10 t348 t349 true a0_0 a0_1 a0_2 l0_3 l0_4 l0_5 t336 t337 t338 t339 t342 t345 t364 t365 t366 t367 t370 t373) else ((laws_eqModel.f kj10 t364 t365 t366 t367 t370 t373 t336 t337 t338 t339 t342 t345).bind fun t397 => (if t397 = true then (if t376 = t348 then (laws_FnExactCoarseModel.j1 kj10 t348 t349 (t377 != t349) a0_0 a0_1 a0_2 l0_3 l0_4 l0_5 t336 t337 t338 t339 t342 t345 t364 t365 t366 t367 t370 t373) else (laws_FnExactCoarseModel.j1 kj10 t348 t349 true a0_0 a0_1 a0_2 l0_3 l0_4 l0_5 t336 t337 t338 t339 t342 t345 t364 t365 t366 t367 t370 t373)) else (laws_FnExactCoarseModel.j1 kj10 t348 t349 true a0_0 a0_1 a0_2 l0_3 l0_4 l0_5 t336 t337 t338 t339 t342 t345 t364 t365 t366 t367 t370 t373))))) = some r := by rw [if_pos rfl] at H; exact H
      clear H
      have H := H1
      clear H1
      replace H := Option.bind_eq_some_iff.mp H
      obtain ⟨⟨t393, t394, t395, t396⟩, A760, H⟩ := H
      replace H : (if t393 < 0 then (laws_FnExactCoarseModel.j1 kj10 t348 t349 true a0_0 a0_1 a0_2 l0_3 l0_4 l0_5 t336 t337 t338 t339 t342 t345 t364 t365 t366 t367 t370 t373) else ((laws_eqModel.f kj10 t364 t365 t366 t367 t370 t373 t336 t337 t338 t339 t342 t345).bind fun t397 => (if t397 = true then (if t376 = t348 then (laws_FnExactCoarseModel.j1 kj10 t348 t349 (t377 != t349) a0_0 a0_1 a0_2 l0_3 l0_4 l0_5 t336 t337 t338 t339 t342 t345 t364 t365 t366 t367 t370 t373) else (laws_FnExactCoarseModel.j1 kj10 t348 t349 true a0_0 a0_1 a0_2 l0_3 l0_4 l0_5 t336 t337 t338 t339 t342 t345 t364 t365 t366 t367 t370 t373)) else (laws_FnExactCoarseModel.j1 kj10 t348 t349 true a0_0 a0_1 a0_2 l0_3 l0_4 l0_5 t336 t337 t338 t339 t342 t345 t364 t365 t366 t367 t370 t373)))) = some r := H
      have A76 := Aside0.mk A760
      clear A760
      have HC77 := Aside0.mk H
      clear H
      try go_wp2
      have n0_ := Aside0.mk (Kd.R_drew HO_351003.out)
      have n1_ := Aside0.mk (Kd.R_drew HO_351004.out)
      have n2_ := Aside0.mk (Kd.R_drew HO_351005.out)
      have n3_ := Aside0.mk (Kd.R_drew HO_364003.out)
      have n4_ := Aside0.mk (Kd.R_drew HO_364004.out)
      have n5_ := Aside0.mk (Kd.R_drew HO_364005.out)
      have n6_ := Aside0.mk (Kd.R_drew HO_379003.out)
      have n7_ := Aside0.mk (Kd.R_drew HO_379004.out)
      have n8_ := Aside0.mk (Kd.R_drew HO_379005.out)
      have n9_ := Aside0.mk (blk_drew BK322.out)
      have n10_ := Aside0.mk (blk_drew BK350.out)
      have n11_ := Aside0.mk (blk_drew BK363.out)
      have n12_ := Aside0.mk (blk_drew BK378.out)
      have n13_ := Aside0.mk (below_drew1 HB.out)
      clear HO_351003
      clear HO_351004
      clear HO_351005
      clear HO_364003
      clear HO_364004
      clear HO_364005
      clear HO_379003
      clear HO_379004
      clear HO_379005
      clear BK322
      clear BK350
      clear BK363
      clear BK378
      clear HB
      have HO_351003 := n0_
      have HO_351004 := n1_
      have HO_351005 := n2_
      have HO_364003 := n3_
      have HO_364004 := n4_
      have HO_364005 := n5_
      have HO_379003 := n6_
      have HO_379004 := n7_
      have HO_379005 := n8_
      have BK322 := n9_
      have BK350 := n10_
      have BK363 := n11_
      have BK378 := n12_
      have HB := n13_
      clear n0_ n1_ n2_ n3_ n4_ n5_ n6_ n7_ n8_ n9_ n10_ n11_ n12_ n13_
      refine start_ (n := 5) (S := fun w' => w'.cell? ⟨gb363, 0, none⟩ = some (.int .i64 t351) ∧ w'.cell? ⟨gb363, 1, none⟩ = some (.int .i64 t352) ∧ w'.cell? ⟨gb363, 2, none⟩ = some (.int .i64 t353) ∧ w'.cell? ⟨gb363, 3, none⟩ = some (.slice Ao33 t354.length co33) ∧ w'.cell? ⟨gb363, 4, none⟩ = some (.slice Ao34 t357.length co34) ∧ w'.cell? ⟨gb363, 5, none⟩ = some (.slice Ao35 t360.length co35) ∧ w'.cell? ⟨gb322, 0, none⟩ = some (.int .i64 a0_0) ∧ w'.cell? ⟨gb322, 1, none⟩ = some (.int .i64 a0_1) ∧ w'.cell? ⟨gb322, 2, none⟩ = some (.int .i64 a0_2) ∧ w'.cell? ⟨gb322, 3, none⟩ = some (.slice A0_3 l0_3.length c0_3) ∧ w'.cell? ⟨gb322, 4, none⟩ = some (.slice A0_4 l0_4.length c0_4) ∧ w'.cell? ⟨gb322, 5, none⟩ = some (.slice A0_5 l0_5.length c0_5)) (ds := []) #[false, false, false, false, false] (by kernel_rfl) rfl rfl ⟨(blk_cell BK363.out 0).trans rfl, (blk_cell BK363.out 1).trans rfl, (blk_cell BK363.out 2).trans rfl, (blk_cell BK363.out 3).trans rfl, (blk_cell BK363.out 4).trans rfl, (blk_cell BK363.out 5).trans rfl, (blk_cell BK322.out 0).trans rfl, (blk_cell BK322.out 1).trans rfl, (blk_cell BK322.out 2).trans rfl, (blk_cell BK322.out 3).trans rfl, (blk_cell BK322.out 4).trans rfl, (blk_cell BK322.out 5).trans rfl⟩ (fun hHeld => ?_)
      generalize wc.drew = w78 at HO_351003 HO_351004 HO_351005 HO_364003 HO_364004 HO_364005 HO_379003 HO_379004 HO_379005 BK322 BK350 BK363 BK378 HB hHeld ⊢
      refine take_ (i := 0) (N := some 51) (v := ?_) (a' := ?_) #[true, false, false, false, false] rfl rfl (by kernel_rfl) (fun _ _ _ h => h) (Or.inl ⟨by rfl, ?_⟩) hHeld ?_ ?_
      rotate_left
      ·rintro w' ⟨s0, s1, s2, s3, s4, s5, s6, s7, s8, s9, s10, s11⟩
       go_simp
       with_reducible rfl
      rotate_left
      ·simp only [Act.put, List.setIfInBounds_toArray, List.set_cons_zero, List.set_cons_succ, i64_w, i32_w]
       rfl
      refine take_ (i := 1) (N := some 52) (v := ?_) (a' := ?_) #[true, true, false, false, false] rfl rfl (by kernel_rfl) (fun _ _ _ h => h) (Or.inl ⟨by rfl, ?_⟩) hHeld ?_ ?_
      rotate_left
      ·rintro w' ⟨s0, s1, s2, s3, s4, s5, s6, s7, s8, s9, s10, s11⟩
       go_simp
       with_reducible rfl
      rotate_left
      ·simp only [Act.put, List.setIfInBounds_toArray, List.set_cons_zero, List.set_cons_succ, i64_w, i32_w]
       rfl
      refine one_ (i := 2) (N := some 53) #[true, true, true, false, false] rfl rfl (by kernel_rfl) (by decide) (fun K hK => ?_)
      refine goes_ Try.func13 (by kernel_rfl) rfl #[.agg #[.int .i64 a0_0, .int .i64 a0_1, .int .i64 a0_2, .slice A0_3 l0_3.length c0_3, .slice A0_4 l0_4.length c0_4, .slice A0_5 l0_5.length c0_5]] (by rfl) rfl rfl (by (try simp only [List.map_toArray, List.map_cons, List.map_nil]); first | done | rfl | (simp only [List.length_drop, List.length_take]; rfl)) ?_
      with_reducible refine (laws_toModel.calls kj10 a0_0 a0_1 a0_2 _ _ l0_3 _ _ l0_4 _ _ l0_5 t380 t381 t382 t383 t386 t389 _ ?side1 ?side2 ?side3 ?side4 ?side5 ?side6 A73.out).mono ?_
      (case side1 => exact Kd.C_w HR0_3 HB)
      (case side2 => exact HC0_3.out)
      (case side3 => exact Kd.C_w HR0_4 HB)
      (case side4 => exact HC0_4.out)
      (case side5 => exact Kd.C_w HR0_5 HB)
      (case side6 => exact HC0_5.out)
      rintro e w79 ⟨v384, v387, v390, rfl, ho0, ho1, ho2, hb⟩
      refine ⟨_, rfl, ?_⟩
      have n0_ := Aside0.mk (Kd.R_mono (Kd.R_told (Kd.R_told (Kd.R_told (Kd.R_old (Kd.R_p HO_351003) hb) (Kd.R_base ho0)) (Kd.R_base ho1)) (Kd.R_base ho2)) (fun _ h_ => h_.1))
      have n1_ := Aside0.mk (Kd.R_mono (Kd.R_told (Kd.R_told (Kd.R_told (Kd.R_old (Kd.R_p HO_351004) hb) (Kd.R_base ho0)) (Kd.R_base ho1)) (Kd.R_base ho2)) (fun _ h_ => h_.1))
      have n2_ := Aside0.mk (Kd.R_mono (Kd.R_told (Kd.R_told (Kd.R_told (Kd.R_old (Kd.R_p HO_351005) hb) (Kd.R_base ho0)) (Kd.R_base ho1)) (Kd.R_base ho2)) (fun _ h_ => h_.1))
      have n3_ := Aside0.mk (Kd.R_mono (Kd.R_told (Kd.R_told (Kd.R_told (Kd.R_old (Kd.R_p HO_364003) hb) (Kd.R_base ho0)) (Kd.R_base ho1)) (Kd.R_base ho2)) (fun _ h_ => h_.1))
      have n4_ := Aside0.mk (Kd.R_mono (Kd.R_told (Kd.R_told (Kd.R_told (Kd.R_old (Kd.R_p HO_364004) hb) (Kd.R_base ho0)) (Kd.R_base ho1)) (Kd.R_base ho2)) (fun _ h_ => h_.1))
      have n5_ := Aside0.mk (Kd.R_mono (Kd.R_told (Kd.R_told (Kd.R_told (Kd.R_old (Kd.R_p HO_364005) hb) (Kd.R_base ho0)) (Kd.R_base ho1)) (Kd.R_base ho2)) (fun _ h_ => h_.1))
      have n6_ := Aside0.mk (Kd.R_mono (Kd.R_told (Kd.R_told (Kd.R_told (Kd.R_old (Kd.R_p HO_379003) hb) (Kd.R_base ho0)) (Kd.R_base ho1)) (Kd.R_base ho2)) (fun _ h_ => h_.1))
      have n7_ := Aside0.mk (Kd.R_mono (Kd.R_told (Kd.R_told (Kd.R_told (Kd.R_old (Kd.R_p HO_379004) hb) (Kd.R_base ho0)) (Kd.R_base ho1)) (Kd.R_base ho2)) (fun _ h_ => h_.1))
      have n8_ := Aside0.mk (Kd.R_mono (Kd.R_told (Kd.R_told (Kd.R_told (Kd.R_old (Kd.R_p HO_379005) hb) (Kd.R_base ho0)) (Kd.R_base ho1)) (Kd.R_base ho2)) (fun _ h_ => h_.1))
      have n9_ := Aside0.mk (Kd.R_lower (Kd.R_nw (Kd.R_nw (Kd.R_nw (Kd.R_nw (Kd.R_nw (Kd.R_nw (Kd.R_nw (Kd.R_nw (Kd.R_nw ho0 HO_351003) HO_351004) HO_351005) HO_364003) HO_364004) HO_364005) HO_379003) HO_379004) HO_379005) (below_size (hb_ HB)))
      have n10_ := Aside0.mk (Kd.R_lower (Kd.R_nw (Kd.R_nw (Kd.R_nw (Kd.R_nw (Kd.R_nw (Kd.R_nw (Kd.R_nw (Kd.R_nw (Kd.R_nw ho1 HO_351003) HO_351004) HO_351005) HO_364003) HO_364004) HO_364005) HO_379003) HO_379004) HO_379005) (below_size (hb_ HB)))
      have n11_ := Aside0.mk (Kd.R_lower (Kd.R_nw (Kd.R_nw (Kd.R_nw (Kd.R_nw (Kd.R_nw (Kd.R_nw (Kd.R_nw (Kd.R_nw (Kd.R_nw ho2 HO_351003) HO_351004) HO_351005) HO_364003) HO_364004) HO_364005) HO_379003) HO_379004) HO_379005) (below_size (hb_ HB)))
      have n12_ := Aside0.mk (blk_below (kp_ BK322) hb)
      have n13_ := Aside0.mk (blk_below (kp_ BK350) hb)
      have n14_ := Aside0.mk (blk_below (kp_ BK363) hb)
      have n15_ := Aside0.mk (blk_below (kp_ BK378) hb)
      have n16_ := Aside0.mk (below_step (hb_ HB) hb)
      clear HO_351003
      clear HO_351004
      clear HO_351005
      clear HO_364003
      clear HO_364004
      clear HO_364005
      clear HO_379003
      clear HO_379004
      clear HO_379005
      clear BK322
      clear BK350
      clear BK363
      clear BK378
      clear HB
      have HO_351003 := n0_
      have HO_351004 := n1_
      have HO_351005 := n2_
      have HO_364003 := n3_
      have HO_364004 := n4_
      have HO_364005 := n5_
      have HO_379003 := n6_
      have HO_379004 := n7_
      have HO_379005 := n8_
      have HO385 := n9_
      have HO388 := n10_
      have HO391 := n11_
      have BK322 := n12_
      have BK350 := n13_
      have BK363 := n14_
      have BK378 := n15_
      have HB := n16_
      clear n0_ n1_ n2_ n3_ n4_ n5_ n6_ n7_ n8_ n9_ n10_ n11_ n12_ n13_ n14_ n15_ n16_
      (try clear hb)
      (try clear hb2)
      (try clear hk)
      (try clear hi)
      (try clear ho0)
      (try clear ho1)
      (try clear ho2)
      obtain ⟨Ao80, co80, eo80⟩ := Kd.R_slice HO385.out
      (first | subst eo80 | (injection eo80 with f1_ f2_ f3_; have f4_ := f1_.symm; have f5_ := f3_.symm; clear f1_ f2_ f3_; subst f4_; subst f5_))
      obtain ⟨Ao81, co81, eo81⟩ := Kd.R_slice HO388.out
      (first | subst eo81 | (injection eo81 with f1_ f2_ f3_; have f4_ := f1_.symm; have f5_ := f3_.symm; clear f1_ f2_ f3_; subst f4_; subst f5_))
      obtain ⟨Ao82, co82, eo82⟩ := Kd.R_slice HO391.out
      (first | subst eo82 | (injection eo82 with f1_ f2_ f3_; have f4_ := f1_.symm; have f5_ := f3_.symm; clear f1_ f2_ f3_; subst f4_; subst f5_))
      refine hK.out _ _ ⟨(blk_cell BK363.out 0).trans rfl, (blk_cell BK363.out 1).trans rfl, (blk_cell BK363.out 2).trans rfl, (blk_cell BK363.out 3).trans rfl, (blk_cell BK363.out 4).trans rfl, (blk_cell BK363.out 5).trans rfl, (blk_cell BK322.out 0).trans rfl, (blk_cell BK322.out 1).trans rfl, (blk_cell BK322.out 2).trans rfl, (blk_cell BK322.out 3).trans rfl, (blk_cell BK322.out 4).trans rfl, (blk_cell BK322.out 5).trans rfl⟩ (fun hHeld => ?_)
      clear hK K
      refine norm_ (a' := ?_) ?_ ?_
      rotate_left
      ·show Act.put _ (some 53) _ = _
       simp only [Act.put, List.setIfInBounds_toArray, List.set_cons_zero, List.set_cons_succ, i64_w, i32_w]
       rfl
      refine one_ (i := 3) (N := some 54) #[true, true, true, true, false] rfl rfl (by kernel_rfl) (by decide) (fun K hK => ?_)
      refine goes_ Try.func16 (by kernel_rfl) rfl #[.agg #[.int .i64 t351, .int .i64 t352, .int .i64 t353, .slice Ao33 t354.length co33, .slice Ao34 t357.length co34, .slice Ao35 t360.length co35], .agg #[.int .i64 t380, .int .i64 t381, .int .i64 t382, .slice Ao80 t383.length co80, .slice Ao81 t386.length co81, .slice Ao82 t389.length co82]] (by rfl) rfl rfl (by (try simp only [List.map_toArray, List.map_cons, List.map_nil]); first | done | rfl | (simp only [List.length_drop, List.length_take]; rfl)) ?_
      with_reducible refine (laws_eqModel.calls kj10 t351 t352 t353 _ _ t354 _ _ t357 _ _ t360 t380 t381 t382 _ _ t383 _ _ t386 _ _ t389 true _ ?side1 ?side2 ?side3 ?side4 ?side5 ?side6 ?side7 ?side8 ?side9 ?side10 ?side11 ?side12 A74.out).mono ?_
      (case side1 => exact Kd.C_o HO_364003)
      (case side2 => exact (Kd.R_reads' HO_364003.out).2.1)
      (case side3 => exact Kd.C_o HO_364004)
      (case side4 => exact (Kd.R_reads' HO_364004.out).2.1)
      (case side5 => exact Kd.C_o HO_364005)
      (case side6 => exact (Kd.R_reads' HO_364005.out).2.1)
      (case side7 => exact Kd.C_o HO385)
      (case side8 => exact (Kd.R_reads' HO385.out).2.1)
      (case side9 => exact Kd.C_o HO388)
      (case side10 => exact (Kd.R_reads' HO388.out).2.1)
      (case side11 => exact Kd.C_o HO391)
      (case side12 => exact (Kd.R_reads' HO391.out).2.1)
      rintro e w83 ⟨rfl, hb⟩
      refine ⟨_, rfl, ?_⟩
      have n0_ := Aside0.mk (Kd.R_below (Kd.R_p HO_351003) hb)
      have n1_ := Aside0.mk (Kd.R_below (Kd.R_p HO_351004) hb)
      have n2_ := Aside0.mk (Kd.R_below (Kd.R_p HO_351005) hb)
      have n3_ := Aside0.mk (Kd.R_below (Kd.R_p HO_364003) hb)
      have n4_ := Aside0.mk (Kd.R_below (Kd.R_p HO_364004) hb)
      have n5_ := Aside0.mk (Kd.R_below (Kd.R_p HO_364005) hb)
      have n6_ := Aside0.mk (Kd.R_below (Kd.R_p HO_379003) hb)
      have n7_ := Aside0.mk (Kd.R_below (Kd.R_p HO_379004) hb)
      have n8_ := Aside0.mk (Kd.R_below (Kd.R_p HO_379005) hb)
      have n9_ := Aside0.mk (Kd.R_below (Kd.R_p HO385) hb)
      have n10_ := Aside0.mk (Kd.R_below (Kd.R_p HO388) hb)
      have n11_ := Aside0.mk (Kd.R_below (Kd.R_p HO391) hb)
      have n12_ := Aside0.mk (blk_below (kp_ BK322) hb)
      have n13_ := Aside0.mk (blk_below (kp_ BK350) hb)
      have n14_ := Aside0.mk (blk_below (kp_ BK363) hb)
      have n15_ := Aside0.mk (blk_below (kp_ BK378) hb)
      have n16_ := Aside0.mk (below_step (hb_ HB) hb)
      clear HO_351003
      clear HO_351004
      clear HO_351005
      clear HO_364003
      clear HO_364004
      clear HO_364005
      clear HO_379003
      clear HO_379004
      clear HO_379005
      clear HO385
      clear HO388
      clear HO391
      clear BK322
      clear BK350
      clear BK363
      clear BK378
      clear HB
      have HO_351003 := n0_
      have HO_351004 := n1_
      have HO_351005 := n2_
      have HO_364003 := n3_
      have HO_364004 := n4_
      have HO_364005 := n5_
      have HO_379003 := n6_
      have HO_379004 := n7_
      have HO_379005 := n8_
      have HO385 := n9_
      have HO388 := n10_
      have HO391 := n11_
      have BK322 := n12_
      have BK350 := n13_
      have BK363 := n14_
      have BK378 := n15_
      have HB := n16_
      clear n0_ n1_ n2_ n3_ n4_ n5_ n6_ n7_ n8_ n9_ n10_ n11_ n12_ n13_ n14_ n15_ n16_
      (try clear hb)
      (try clear hb2)
      (try clear hk)
      (try clear hi)
      refine hK.out _ _ ⟨(blk_cell BK363.out 0).trans rfl, (blk_cell BK363.out 1).trans rfl, (blk_cell BK363.out 2).trans rfl, (blk_cell BK363.out 3).trans rfl, (blk_cell BK363.out 4).trans rfl, (blk_cell BK363.out 5).trans rfl, (blk_cell BK322.out 0).trans rfl, (blk_cell BK322.out 1).trans rfl, (blk_cell BK322.out 2).trans rfl, (blk_cell BK322.out 3).trans rfl, (blk_cell BK322.out 4).trans rfl, (blk_cell BK322.out 5).trans rfl⟩ (fun hHeld => ?_)
      clear hK K
      refine norm_ (a' := ?_) ?_ ?_
      rotate_left
      ·show Act.put _ (some 54) _ = _
       simp only [Act.put, List.setIfInBounds_toArray, List.set_cons_zero, List.set_cons_succ, i64_w, i32_w]
       rfl
      refine pure_ (i := 4) (N := some 55) (v := ?_) (a' := ?_) #[true, true, true, true, true] rfl rfl (by kernel_rfl) (fun _ _ _ h => h) (Or.inl ⟨by rfl, ?_⟩) ?_ ?_
      rotate_left
      ·intro w'
       go_simp
       with_reducible rfl
      rotate_left
      ·simp only [Act.put, List.setIfInBounds_toArray, List.set_cons_zero, List.set_cons_succ, i64_w, i32_w]
       rfl
      refine done_ (by kernel_rfl) ?_
      have hnb84 := NB363_322.out
      have hnc84 := NB322_363.out
      have hnb85 := NB363_350.out
      have hnc85 := NB350_363.out
      have hnb86 := NB363_378.out
      have hnc86 := NB378_363.out
      have hcz87_0 : w83.cell? ⟨gb363, 0, none⟩ = some (.int .i64 t351) := (blk_cell BK363.out 0).trans rfl
      have hcz87_1 : w83.cell? ⟨gb363, 1, none⟩ = some (.int .i64 t352) := (blk_cell BK363.out 1).trans rfl
      have hcz87_2 : w83.cell? ⟨gb363, 2, none⟩ = some (.int .i64 t353) := (blk_cell BK363.out 2).trans rfl
      have hcz87_3 : w83.cell? ⟨gb363, 3, none⟩ = some (.slice Ao33 t354.length co33) := (blk_cell BK363.out 3).trans rfl
      have hcz87_4 : w83.cell? ⟨gb363, 4, none⟩ = some (.slice Ao34 t357.length co34) := (blk_cell BK363.out 4).trans rfl
      have hcz87_5 : w83.cell? ⟨gb363, 5, none⟩ = some (.slice Ao35 t360.length co35) := (blk_cell BK363.out 5).trans rfl
      have hfz87_0 := blk_frozen BK363.out 0
      have hfz87_1 := blk_frozen BK363.out 1
      have hfz87_2 := blk_frozen BK363.out 2
      have hfz87_3 := blk_frozen BK363.out 3
      have hfz87_4 := blk_frozen BK363.out 4
      have hfz87_5 := blk_frozen BK363.out 5
      (try clear HO385); (try clear HO388); (try clear HO391)
      go_upto_region 14 with (first | ((with_reducible refine gate_callee (f := 35) rfl ?_); refine gl_ (some 58) Try.func35 #[.agg #[.int .i64 t351, .int .i64 t352, .int .i64 t353, .slice Ao33 t354.length co33, .slice Ao34 t357.length co34, .slice Ao35 t360.length co35], .int .i64 1] rfl rfl rfl ?_; (with_reducible refine (laws_markModel.calls kj10 t351 t352 t353 (fun k_ => some k_ = (.slice Ao33 t354.length co33 : Value).ownBlock) (.slice Ao33 t354.length co33) t354 (fun k_ => some k_ = (.slice Ao34 t357.length co34 : Value).ownBlock) (.slice Ao34 t357.length co34) t357 (fun k_ => some k_ = (.slice Ao35 t360.length co35 : Value).ownBlock) (.slice Ao35 t360.length co35) t360 1 t393 t394 t395 t396 w _ ?side1 ?side2 ?side3 ?side4 ?side5 ?side6 ?side7 ?side8 ?side9 ?side10 A76.out).mono ?_); (case side1 => exact hb_ HB); (case side2 => exact Kd.R_tight rfl HO_364003.out); (case side3 => exact fun k_ e_ => (HO_364003.out.1 k_ e_.symm).1.1.1.2.2.2.1); (case side4 => exact fun k_ e_ => (HO_364003.out.1 k_ e_.symm).1.1.1.2.2.2.2.1); (case side5 => exact Kd.R_tight rfl HO_364004.out); (case side6 => exact fun k_ e_ => (HO_364004.out.1 k_ e_.symm).1.1.1.2.2.2.1); (case side7 => exact fun k_ e_ => (HO_364004.out.1 k_ e_.symm).1.1.1.2.2.2.2.1); (case side8 => exact Kd.R_tight rfl HO_364005.out); (case side9 => exact fun k_ e_ => (HO_364005.out.1 k_ e_.symm).1.1.1.2.2.2.1); (case side10 => exact fun k_ e_ => (HO_364005.out.1 k_ e_.symm).1.1.1.2.2.2.2.1); rintro e w88 ⟨rfl, hy0, hy1, hy2, hb, hkp⟩; refine ⟨_, rfl, ?_⟩; replace HO_351003 := Aside0.mk (Kd.R_mono (ok' := fun k_ => some k_ ≠ (.slice Ao25 t342.length co25 : Value).ownBlock ∧ some k_ ≠ (.slice Ao26 t345.length co26 : Value).ownBlock ∧ some k_ ≠ (.slice Ao33 t354.length co33 : Value).ownBlock ∧ some k_ ≠ (.slice Ao34 t357.length co34 : Value).ownBlock ∧ some k_ ≠ (.slice Ao35 t360.length co35 : Value).ownBlock ∧ some k_ ≠ (.slice Ao42 t367.length co42 : Value).ownBlock ∧ some k_ ≠ (.slice Ao43 t370.length co43 : Value).ownBlock ∧ some k_ ≠ (.slice Ao44 t373.length co44 : Value).ownBlock) (Kd.R_keptB (HO_351003.out) hkp (fun k_ hk_ hs_ => Or.elim hs_ (fun e_ => (hk_.1.1.1.2.2.1) e_) (fun e_ => Or.elim e_ (fun e_ => (hk_.1.1.1.2.2.2.1) e_) (fun e_ => (hk_.1.1.1.2.2.2.2.1) e_)))) (fun k_ hk_ => ⟨hk_.1.1.1.1.1, hk_.1.1.1.1.2.1, hk_.1.1.1.1.2.2.1, hk_.1.1.1.1.2.2.2.1, hk_.1.1.1.1.2.2.2.2.1, hk_.1.1.1.1.2.2.2.2.2.1, hk_.1.1.1.1.2.2.2.2.2.2.1, hk_.1.1.1.1.2.2.2.2.2.2.2⟩)); replace HO_351004 := Aside0.mk (Kd.R_mono (ok' := fun k_ => some k_ ≠ (.slice Ao24 t339.length co24 : Value).ownBlock ∧ some k_ ≠ (.slice Ao26 t345.length co26 : Value).ownBlock ∧ some k_ ≠ (.slice Ao33 t354.length co33 : Value).ownBlock ∧ some k_ ≠ (.slice Ao34 t357.length co34 : Value).ownBlock ∧ some k_ ≠ (.slice Ao35 t360.length co35 : Value).ownBlock ∧ some k_ ≠ (.slice Ao42 t367.length co42 : Value).ownBlock ∧ some k_ ≠ (.slice Ao43 t370.length co43 : Value).ownBlock ∧ some k_ ≠ (.slice Ao44 t373.length co44 : Value).ownBlock) (Kd.R_keptB (HO_351004.out) hkp (fun k_ hk_ hs_ => Or.elim hs_ (fun e_ => (hk_.1.1.1.2.2.1) e_) (fun e_ => Or.elim e_ (fun e_ => (hk_.1.1.1.2.2.2.1) e_) (fun e_ => (hk_.1.1.1.2.2.2.2.1) e_)))) (fun k_ hk_ => ⟨hk_.1.1.1.1.1, hk_.1.1.1.1.2.1, hk_.1.1.1.1.2.2.1, hk_.1.1.1.1.2.2.2.1, hk_.1.1.1.1.2.2.2.2.1, hk_.1.1.1.1.2.2.2.2.2.1, hk_.1.1.1.1.2.2.2.2.2.2.1, hk_.1.1.1.1.2.2.2.2.2.2.2⟩)); replace HO_351005 := Aside0.mk (Kd.R_mono (ok' := fun k_ => some k_ ≠ (.slice Ao24 t339.length co24 : Value).ownBlock ∧ some k_ ≠ (.slice Ao25 t342.length co25 : Value).ownBlock ∧ some k_ ≠ (.slice Ao33 t354.length co33 : Value).ownBlock ∧ some k_ ≠ (.slice Ao34 t357.length co34 : Value).ownBlock ∧ some k_ ≠ (.slice Ao35 t360.length co35 : Value).ownBlock ∧ some k_ ≠ (.slice Ao42 t367.length co42 : Value).ownBlock ∧ some k_ ≠ (.slice Ao43 t370.length co43 : Value).ownBlock ∧ some k_ ≠ (.slice Ao44 t373.length co44 : Value).ownBlock) (Kd.R_keptB (HO_351005.out) hkp (fun k_ hk_ hs_ => Or.elim hs_ (fun e_ => (hk_.1.1.1.2.2.1) e_) (fun e_ => Or.elim e_ (fun e_ => (hk_.1.1.1.2.2.2.1) e_) (fun e_ => (hk_.1.1.1.2.2.2.2.1) e_)))) (fun k_ hk_ => ⟨hk_.1.1.1.1.1, hk_.1.1.1.1.2.1, hk_.1.1.1.1.2.2.1, hk_.1.1.1.1.2.2.2.1, hk_.1.1.1.1.2.2.2.2.1, hk_.1.1.1.1.2.2.2.2.2.1, hk_.1.1.1.1.2.2.2.2.2.2.1, hk_.1.1.1.1.2.2.2.2.2.2.2⟩)); replace HO_379003 := Aside0.mk (Kd.R_mono (ok' := fun k_ => some k_ ≠ (.slice Ao24 t339.length co24 : Value).ownBlock ∧ some k_ ≠ (.slice Ao25 t342.length co25 : Value).ownBlock ∧ some k_ ≠ (.slice Ao26 t345.length co26 : Value).ownBlock ∧ some k_ ≠ (.slice Ao33 t354.length co33 : Value).ownBlock ∧ some k_ ≠ (.slice Ao34 t357.length co34 : Value).ownBlock ∧ some k_ ≠ (.slice Ao35 t360.length co35 : Value).ownBlock ∧ some k_ ≠ (.slice Ao43 t370.length co43 : Value).ownBlock ∧ some k_ ≠ (.slice Ao44 t373.length co44 : Value).ownBlock) (Kd.R_keptB (HO_379003.out) hkp (fun k_ hk_ hs_ => Or.elim hs_ (fun e_ => (hk_.1.1.1.2.2.2.1) e_) (fun e_ => Or.elim e_ (fun e_ => (hk_.1.1.1.2.2.2.2.1) e_) (fun e_ => (hk_.1.1.1.2.2.2.2.2.1) e_)))) (fun k_ hk_ => ⟨hk_.1.1.1.1.1, hk_.1.1.1.1.2.1, hk_.1.1.1.1.2.2.1, hk_.1.1.1.1.2.2.2.1, hk_.1.1.1.1.2.2.2.2.1, hk_.1.1.1.1.2.2.2.2.2.1, hk_.1.1.1.1.2.2.2.2.2.2.1, hk_.1.1.1.1.2.2.2.2.2.2.2⟩)); replace HO_379004 := Aside0.mk (Kd.R_mono (ok' := fun k_ => some k_ ≠ (.slice Ao24 t339.length co24 : Value).ownBlock ∧ some k_ ≠ (.slice Ao25 t342.length co25 : Value).ownBlock ∧ some k_ ≠ (.slice Ao26 t345.length co26 : Value).ownBlock ∧ some k_ ≠ (.slice Ao33 t354.length co33 : Value).ownBlock ∧ some k_ ≠ (.slice Ao34 t357.length co34 : Value).ownBlock ∧ some k_ ≠ (.slice Ao35 t360.length co35 : Value).ownBlock ∧ some k_ ≠ (.slice Ao42 t367.length co42 : Value).ownBlock ∧ some k_ ≠ (.slice Ao44 t373.length co44 : Value).ownBlock) (Kd.R_keptB (HO_379004.out) hkp (fun k_ hk_ hs_ => Or.elim hs_ (fun e_ => (hk_.1.1.1.2.2.2.1) e_) (fun e_ => Or.elim e_ (fun e_ => (hk_.1.1.1.2.2.2.2.1) e_) (fun e_ => (hk_.1.1.1.2.2.2.2.2.1) e_)))) (fun k_ hk_ => ⟨hk_.1.1.1.1.1, hk_.1.1.1.1.2.1, hk_.1.1.1.1.2.2.1, hk_.1.1.1.1.2.2.2.1, hk_.1.1.1.1.2.2.2.2.1, hk_.1.1.1.1.2.2.2.2.2.1, hk_.1.1.1.1.2.2.2.2.2.2.1, hk_.1.1.1.1.2.2.2.2.2.2.2⟩)); replace HO_379005 := Aside0.mk (Kd.R_mono (ok' := fun k_ => some k_ ≠ (.slice Ao24 t339.length co24 : Value).ownBlock ∧ some k_ ≠ (.slice Ao25 t342.length co25 : Value).ownBlock ∧ some k_ ≠ (.slice Ao26 t345.length co26 : Value).ownBlock ∧ some k_ ≠ (.slice Ao33 t354.length co33 : Value).ownBlock ∧ some k_ ≠ (.slice Ao34 t357.length co34 : Value).ownBlock ∧ some k_ ≠ (.slice Ao35 t360.length co35 : Value).ownBlock ∧ some k_ ≠ (.slice Ao42 t367.length co42 : Value).ownBlock ∧ some k_ ≠ (.slice Ao43 t370.length co43 : Value).ownBlock) (Kd.R_keptB (HO_379005.out) hkp (fun k_ hk_ hs_ => Or.elim hs_ (fun e_ => (hk_.1.1.1.2.2.2.1) e_) (fun e_ => Or.elim e_ (fun e_ => (hk_.1.1.1.2.2.2.2.1) e_) (fun e_ => (hk_.1.1.1.2.2.2.2.2.1) e_)))) (fun k_ hk_ => ⟨hk_.1.1.1.1.1, hk_.1.1.1.1.2.1, hk_.1.1.1.1.2.2.1, hk_.1.1.1.1.2.2.2.1, hk_.1.1.1.1.2.2.2.2.1, hk_.1.1.1.1.2.2.2.2.2.1, hk_.1.1.1.1.2.2.2.2.2.2.1, hk_.1.1.1.1.2.2.2.2.2.2.2⟩)); replace BK322 := Aside0.mk (blk_kept (kp_ BK322) hkp (fun hs_ => Or.elim hs_ (fun e_ => (fun e_ => (Kd.R_ne HO_364003.out BK322.out (by decide)) e_) e_) (fun e_ => Or.elim e_ (fun e_ => (fun e_ => (Kd.R_ne HO_364004.out BK322.out (by decide)) e_) e_) (fun e_ => (fun e_ => (Kd.R_ne HO_364005.out BK322.out (by decide)) e_) e_)))); replace BK350 := Aside0.mk (blk_kept (kp_ BK350) hkp (fun hs_ => Or.elim hs_ (fun e_ => (fun e_ => (Kd.R_ne HO_364003.out BK350.out (by decide)) e_) e_) (fun e_ => Or.elim e_ (fun e_ => (fun e_ => (Kd.R_ne HO_364004.out BK350.out (by decide)) e_) e_) (fun e_ => (fun e_ => (Kd.R_ne HO_364005.out BK350.out (by decide)) e_) e_)))); replace BK363 := Aside0.mk (blk_kept (kp_ BK363) hkp (fun hs_ => Or.elim hs_ (fun e_ => (fun e_ => (Kd.R_ne HO_364003.out BK363.out (by decide)) e_) e_) (fun e_ => Or.elim e_ (fun e_ => (fun e_ => (Kd.R_ne HO_364004.out BK363.out (by decide)) e_) e_) (fun e_ => (fun e_ => (Kd.R_ne HO_364005.out BK363.out (by decide)) e_) e_)))); replace BK378 := Aside0.mk (blk_kept (kp_ BK378) hkp (fun hs_ => Or.elim hs_ (fun e_ => (fun e_ => (Kd.R_ne HO_364003.out BK378.out (by decide)) e_) e_) (fun e_ => Or.elim e_ (fun e_ => (fun e_ => (Kd.R_ne HO_364004.out BK378.out (by decide)) e_) e_) (fun e_ => (fun e_ => (Kd.R_ne HO_364005.out BK378.out (by decide)) e_) e_)))); replace HB := Aside0.mk (hb); replace HO_364003 := Aside0.mk (Kd.R_reok rfl hy0 (fun k_ e_ => HO_364003.out.1 k_ e_)); replace HO_364004 := Aside0.mk (Kd.R_reok rfl hy1 (fun k_ e_ => HO_364004.out.1 k_ e_)); replace HO_364005 := Aside0.mk (Kd.R_reok rfl hy2 (fun k_ e_ => HO_364005.out.1 k_ e_)); (try clear hb); (try clear hkp); (try clear hy0); (try clear hy1); (try clear hy2)))
      (try simp only [Act.put, List.setIfInBounds_toArray, List.set_cons_zero, List.set_cons_succ])
      go_cut [76] (fun v76 wc => ∃ (kq : Nat) (x76_76 : Bool), v76 = .bool x76_76 ∧ Aside0 (laws_FnExactCoarseModel.j1 kq t348 t349 x76_76 a0_0 a0_1 a0_2 l0_3 l0_4 l0_5 t336 t337 t338 t339 t342 t345 t364 t365 t366 t367 t370 t373 = some r) ∧ Aside0 (kq ≤ kj10) ∧ Aside0 (Kd.R (Kd.int .i64) 3 wc w.heap.size (fun k_ => some k_ ≠ ((.slice Ao25 t342.length co25) : Value).ownBlock ∧ some k_ ≠ ((.slice Ao26 t345.length co26) : Value).ownBlock ∧ some k_ ≠ ((.slice Ao42 t367.length co42) : Value).ownBlock ∧ some k_ ≠ ((.slice Ao43 t370.length co43) : Value).ownBlock ∧ some k_ ≠ ((.slice Ao44 t373.length co44) : Value).ownBlock) (.slice Ao24 t339.length co24) t339) ∧ Aside0 (Kd.R (Kd.int .i64) 3 wc w.heap.size (fun k_ => some k_ ≠ ((.slice Ao24 t339.length co24) : Value).ownBlock ∧ some k_ ≠ ((.slice Ao26 t345.length co26) : Value).ownBlock ∧ some k_ ≠ ((.slice Ao42 t367.length co42) : Value).ownBlock ∧ some k_ ≠ ((.slice Ao43 t370.length co43) : Value).ownBlock ∧ some k_ ≠ ((.slice Ao44 t373.length co44) : Value).ownBlock) (.slice Ao25 t342.length co25) t342) ∧ Aside0 (Kd.R (Kd.int .i64) 3 wc w.heap.size (fun k_ => some k_ ≠ ((.slice Ao24 t339.length co24) : Value).ownBlock ∧ some k_ ≠ ((.slice Ao25 t342.length co25) : Value).ownBlock ∧ some k_ ≠ ((.slice Ao42 t367.length co42) : Value).ownBlock ∧ some k_ ≠ ((.slice Ao43 t370.length co43) : Value).ownBlock ∧ some k_ ≠ ((.slice Ao44 t373.length co44) : Value).ownBlock) (.slice Ao26 t345.length co26) t345) ∧ Aside0 (Kd.R (Kd.int .i64) 3 wc w.heap.size (fun k_ => some k_ ≠ ((.slice Ao24 t339.length co24) : Value).ownBlock ∧ some k_ ≠ ((.slice Ao25 t342.length co25) : Value).ownBlock ∧ some k_ ≠ ((.slice Ao26 t345.length co26) : Value).ownBlock ∧ some k_ ≠ ((.slice Ao43 t370.length co43) : Value).ownBlock ∧ some k_ ≠ ((.slice Ao44 t373.length co44) : Value).ownBlock) (.slice Ao42 t367.length co42) t367) ∧ Aside0 (Kd.R (Kd.int .i64) 3 wc w.heap.size (fun k_ => some k_ ≠ ((.slice Ao24 t339.length co24) : Value).ownBlock ∧ some k_ ≠ ((.slice Ao25 t342.length co25) : Value).ownBlock ∧ some k_ ≠ ((.slice Ao26 t345.length co26) : Value).ownBlock ∧ some k_ ≠ ((.slice Ao42 t367.length co42) : Value).ownBlock ∧ some k_ ≠ ((.slice Ao44 t373.length co44) : Value).ownBlock) (.slice Ao43 t370.length co43) t370) ∧ Aside0 (Kd.R (Kd.int .i64) 3 wc w.heap.size (fun k_ => some k_ ≠ ((.slice Ao24 t339.length co24) : Value).ownBlock ∧ some k_ ≠ ((.slice Ao25 t342.length co25) : Value).ownBlock ∧ some k_ ≠ ((.slice Ao26 t345.length co26) : Value).ownBlock ∧ some k_ ≠ ((.slice Ao42 t367.length co42) : Value).ownBlock ∧ some k_ ≠ ((.slice Ao43 t370.length co43) : Value).ownBlock) (.slice Ao44 t373.length co44) t373) ∧ Aside0 (wc.heap[gb322]? = some (.cells #[.int .i64 a0_0, .int .i64 a0_1, .int .i64 a0_2, (.slice A0_3 l0_3.length c0_3), (.slice A0_4 l0_4.length c0_4), (.slice A0_5 l0_5.length c0_5)] 26 (0, 0))) ∧ Aside0 (wc.heap[gb350]? = some (.cells #[.int .i64 t336, .int .i64 t337, .int .i64 t338, (.slice Ao24 t339.length co24), (.slice Ao25 t342.length co25), (.slice Ao26 t345.length co26)] 34 (0, 0))) ∧ Aside0 (wc.heap[gb378]? = some (.cells #[.int .i64 t364, .int .i64 t365, .int .i64 t366, (.slice Ao42 t367.length co42), (.slice Ao43 t370.length co43), (.slice Ao44 t373.length co44)] 34 (0, 0))) ∧ Aside0 (Below w.heap.size w wc))
      case first =>
       have H := HC77.out
       clear HC77
       by_cases c89 : t393 < 0
       ·rw [if_pos c89] at H
        have c89b0 : decide (t393 < 0) = true := decide_eq_true c89
        clear c89
        (first | rw [c89b0] | (simp only [i64_w, i32_w]; rw [c89b0]) | skip)
        have H' := Aside0.mk H
        clear H
        go_wp2
        go_meet
        case rel => exact ⟨_, (true), (by first | rfl | (simp; done) | (simp [*]; done)), H', ⟨by have := HJ10.out; first | omega | exact Nat.le_refl _⟩, ⟨Kd.R_pp (Kd.R_mono HO_351003.out (fun _ hk => ⟨hk.1, ⟨hk.2.1, ⟨hk.2.2.2.2.2.1, ⟨hk.2.2.2.2.2.2.1, hk.2.2.2.2.2.2.2⟩⟩⟩⟩))⟩, ⟨Kd.R_pp (Kd.R_mono HO_351004.out (fun _ hk => ⟨hk.1, ⟨hk.2.1, ⟨hk.2.2.2.2.2.1, ⟨hk.2.2.2.2.2.2.1, hk.2.2.2.2.2.2.2⟩⟩⟩⟩))⟩, ⟨Kd.R_pp (Kd.R_mono HO_351005.out (fun _ hk => ⟨hk.1, ⟨hk.2.1, ⟨hk.2.2.2.2.2.1, ⟨hk.2.2.2.2.2.2.1, hk.2.2.2.2.2.2.2⟩⟩⟩⟩))⟩, ⟨Kd.R_pp (Kd.R_mono HO_379003.out (fun _ hk => ⟨hk.1, ⟨hk.2.1, ⟨hk.2.2.1, ⟨hk.2.2.2.2.2.2.1, hk.2.2.2.2.2.2.2⟩⟩⟩⟩))⟩, ⟨Kd.R_pp (Kd.R_mono HO_379004.out (fun _ hk => ⟨hk.1, ⟨hk.2.1, ⟨hk.2.2.1, ⟨hk.2.2.2.2.2.2.1, hk.2.2.2.2.2.2.2⟩⟩⟩⟩))⟩, ⟨Kd.R_pp (Kd.R_mono HO_379005.out (fun _ hk => ⟨hk.1, ⟨hk.2.1, ⟨hk.2.2.1, ⟨hk.2.2.2.2.2.2.1, hk.2.2.2.2.2.2.2⟩⟩⟩⟩))⟩, ⟨kp_ BK322⟩, ⟨kp_ BK350⟩, ⟨kp_ BK378⟩, ⟨hb_ HB⟩⟩
       ·rw [if_neg c89] at H
        have c89b0 : decide (t393 < 0) = false := decide_eq_false c89
        clear c89
        (first | rw [c89b0] | (simp only [i64_w, i32_w]; rw [c89b0]) | skip)
        replace H := Option.bind_eq_some_iff.mp H
        obtain ⟨t397, A900, H⟩ := H
        replace H : (if t397 = true then (if t376 = t348 then (laws_FnExactCoarseModel.j1 kj10 t348 t349 (t377 != t349) a0_0 a0_1 a0_2 l0_3 l0_4 l0_5 t336 t337 t338 t339 t342 t345 t364 t365 t366 t367 t370 t373) else (laws_FnExactCoarseModel.j1 kj10 t348 t349 true a0_0 a0_1 a0_2 l0_3 l0_4 l0_5 t336 t337 t338 t339 t342 t345 t364 t365 t366 t367 t370 t373)) else (laws_FnExactCoarseModel.j1 kj10 t348 t349 true a0_0 a0_1 a0_2 l0_3 l0_4 l0_5 t336 t337 t338 t339 t342 t345 t364 t365 t366 t367 t370 t373)) = some r := H
        have A90 := Aside0.mk A900
        clear A900
        by_cases c91 : t397 = true
        ·subst c91
         have H1 : (if t376 = t348 then (laws_FnExactCoarseModel.j1 kj10 t348 t349 (t377 != t349) a0_0 a0_1 a0_2 l0_3 l0_4 l0_5 t336 t337 t338 t339 t342 t345 t364 t365 t366 t367 t370 t373) else (laws_FnExactCoarseModel.j1 kj10 t348 t349 true a0_0 a0_1 a0_2 l0_3 l0_4 l0_5 t336 t337 t338 t339 t342 t345 t364 t365 t366 t367 t370 t373)) = some r := by rw [if_pos rfl] at H; exact H
         clear H
         have H := H1
         clear H1
         by_cases c92 : t376 = t348
         ·rw [if_pos c92] at H
          have c92b0 : (t376 == t348) = true := beq_iff_eq.mpr c92
          have c92b1 : (t376 != t348) = false := bne_eq_false_iff_eq.mpr c92
          clear c92
          have H' := Aside0.mk H
          clear H
          have hnb93 := NB378_322.out
          have hnc93 := NB322_378.out
          have hnb94 := NB378_350.out
          have hnc94 := NB350_378.out
          have hnb95 := NB378_363.out
          have hnc95 := NB363_378.out
          have hcz96_0 : w88.cell? ⟨gb378, 0, none⟩ = some (.int .i64 t364) := (blk_cell BK378.out 0).trans rfl
          have hcz96_1 : w88.cell? ⟨gb378, 1, none⟩ = some (.int .i64 t365) := (blk_cell BK378.out 1).trans rfl
          have hcz96_2 : w88.cell? ⟨gb378, 2, none⟩ = some (.int .i64 t366) := (blk_cell BK378.out 2).trans rfl
          have hcz96_3 : w88.cell? ⟨gb378, 3, none⟩ = some (.slice Ao42 t367.length co42) := (blk_cell BK378.out 3).trans rfl
          have hcz96_4 : w88.cell? ⟨gb378, 4, none⟩ = some (.slice Ao43 t370.length co43) := (blk_cell BK378.out 4).trans rfl
          have hcz96_5 : w88.cell? ⟨gb378, 5, none⟩ = some (.slice Ao44 t373.length co44) := (blk_cell BK378.out 5).trans rfl
          have hfz96_0 := blk_frozen BK378.out 0
          have hfz96_1 := blk_frozen BK378.out 1
          have hfz96_2 := blk_frozen BK378.out 2
          have hfz96_3 := blk_frozen BK378.out 3
          have hfz96_4 := blk_frozen BK378.out 4
          have hfz96_5 := blk_frozen BK378.out 5
          have hnb97 := NB350_322.out
          have hnc97 := NB322_350.out
          have hnb98 := NB350_363.out
          have hnc98 := NB363_350.out
          have hcz99_0 : w88.cell? ⟨gb350, 0, none⟩ = some (.int .i64 t336) := (blk_cell BK350.out 0).trans rfl
          have hcz99_1 : w88.cell? ⟨gb350, 1, none⟩ = some (.int .i64 t337) := (blk_cell BK350.out 1).trans rfl
          have hcz99_2 : w88.cell? ⟨gb350, 2, none⟩ = some (.int .i64 t338) := (blk_cell BK350.out 2).trans rfl
          have hcz99_3 : w88.cell? ⟨gb350, 3, none⟩ = some (.slice Ao24 t339.length co24) := (blk_cell BK350.out 3).trans rfl
          have hcz99_4 : w88.cell? ⟨gb350, 4, none⟩ = some (.slice Ao25 t342.length co25) := (blk_cell BK350.out 4).trans rfl
          have hcz99_5 : w88.cell? ⟨gb350, 5, none⟩ = some (.slice Ao26 t345.length co26) := (blk_cell BK350.out 5).trans rfl
          have hfz99_0 := blk_frozen BK350.out 0
          have hfz99_1 := blk_frozen BK350.out 1
          have hfz99_2 := blk_frozen BK350.out 2
          have hfz99_3 := blk_frozen BK350.out 3
          have hfz99_4 := blk_frozen BK350.out 4
          have hfz99_5 := blk_frozen BK350.out 5
          (try clear BK363); (try clear GW363); (try clear GE363); (try clear NB363_322); (try clear NB322_363); (try clear NB363_350); (try clear NB350_363); (try clear NB363_378); (try clear NB378_363)
          go_wp2_with (first | (go_at_call 16; (with_reducible refine (laws_eqModel.calls kj10 t364 t365 t366 _ _ t367 _ _ t370 _ _ t373 t336 t337 t338 _ _ t339 _ _ t342 _ _ t345 true _ ?side1 ?side2 ?side3 ?side4 ?side5 ?side6 ?side7 ?side8 ?side9 ?side10 ?side11 ?side12 A90.out).mono ?_); (case side1 => exact Kd.C_o HO_379003); (case side2 => exact (Kd.R_reads' HO_379003.out).2.1); (case side3 => exact Kd.C_o HO_379004); (case side4 => exact (Kd.R_reads' HO_379004.out).2.1); (case side5 => exact Kd.C_o HO_379005); (case side6 => exact (Kd.R_reads' HO_379005.out).2.1); (case side7 => exact Kd.C_o HO_351003); (case side8 => exact (Kd.R_reads' HO_351003.out).2.1); (case side9 => exact Kd.C_o HO_351004); (case side10 => exact (Kd.R_reads' HO_351004.out).2.1); (case side11 => exact Kd.C_o HO_351005); (case side12 => exact (Kd.R_reads' HO_351005.out).2.1); rintro e w100 ⟨rfl, hb⟩; have n0_ := Aside0.mk (Kd.R_below (Kd.R_p HO_351003) hb); have n1_ := Aside0.mk (Kd.R_below (Kd.R_p HO_351004) hb); have n2_ := Aside0.mk (Kd.R_below (Kd.R_p HO_351005) hb); have n3_ := Aside0.mk (Kd.R_below (Kd.R_p HO_364003) hb); have n4_ := Aside0.mk (Kd.R_below (Kd.R_p HO_364004) hb); have n5_ := Aside0.mk (Kd.R_below (Kd.R_p HO_364005) hb); have n6_ := Aside0.mk (Kd.R_below (Kd.R_p HO_379003) hb); have n7_ := Aside0.mk (Kd.R_below (Kd.R_p HO_379004) hb); have n8_ := Aside0.mk (Kd.R_below (Kd.R_p HO_379005) hb); have n9_ := Aside0.mk (blk_below (kp_ BK322) hb); have n10_ := Aside0.mk (blk_below (kp_ BK350) hb); have n11_ := Aside0.mk (blk_below (kp_ BK378) hb); have n12_ := Aside0.mk (below_step (hb_ HB) hb); clear HO_351003; clear HO_351004; clear HO_351005; clear HO_364003; clear HO_364004; clear HO_364005; clear HO_379003; clear HO_379004; clear HO_379005; clear BK322; clear BK350; clear BK378; clear HB; have HO_351003 := n0_; have HO_351004 := n1_; have HO_351005 := n2_; have HO_364003 := n3_; have HO_364004 := n4_; have HO_364005 := n5_; have HO_379003 := n6_; have HO_379004 := n7_; have HO_379005 := n8_; have BK322 := n9_; have BK350 := n10_; have BK378 := n11_; have HB := n12_; clear n0_ n1_ n2_ n3_ n4_ n5_ n6_ n7_ n8_ n9_ n10_ n11_ n12_; (try clear hb); (try clear hb2); (try clear hk); (try clear hi)))
          go_meet
          case rel => exact ⟨_, ((t377 != t349)), (by first | rfl | (simp; done) | (simp [*]; done)), H', ⟨by have := HJ10.out; first | omega | exact Nat.le_refl _⟩, ⟨Kd.R_pp (Kd.R_mono HO_351003.out (fun _ hk => ⟨hk.1, ⟨hk.2.1, ⟨hk.2.2.2.2.2.1, ⟨hk.2.2.2.2.2.2.1, hk.2.2.2.2.2.2.2⟩⟩⟩⟩))⟩, ⟨Kd.R_pp (Kd.R_mono HO_351004.out (fun _ hk => ⟨hk.1, ⟨hk.2.1, ⟨hk.2.2.2.2.2.1, ⟨hk.2.2.2.2.2.2.1, hk.2.2.2.2.2.2.2⟩⟩⟩⟩))⟩, ⟨Kd.R_pp (Kd.R_mono HO_351005.out (fun _ hk => ⟨hk.1, ⟨hk.2.1, ⟨hk.2.2.2.2.2.1, ⟨hk.2.2.2.2.2.2.1, hk.2.2.2.2.2.2.2⟩⟩⟩⟩))⟩, ⟨Kd.R_pp (Kd.R_mono HO_379003.out (fun _ hk => ⟨hk.1, ⟨hk.2.1, ⟨hk.2.2.1, ⟨hk.2.2.2.2.2.2.1, hk.2.2.2.2.2.2.2⟩⟩⟩⟩))⟩, ⟨Kd.R_pp (Kd.R_mono HO_379004.out (fun _ hk => ⟨hk.1, ⟨hk.2.1, ⟨hk.2.2.1, ⟨hk.2.2.2.2.2.2.1, hk.2.2.2.2.2.2.2⟩⟩⟩⟩))⟩, ⟨Kd.R_pp (Kd.R_mono HO_379005.out (fun _ hk => ⟨hk.1, ⟨hk.2.1, ⟨hk.2.2.1, ⟨hk.2.2.2.2.2.2.1, hk.2.2.2.2.2.2.2⟩⟩⟩⟩))⟩, ⟨kp_ BK322⟩, ⟨kp_ BK350⟩, ⟨kp_ BK378⟩, ⟨hb_ HB⟩⟩
         ·rw [if_neg c92] at H
          have c92b0 : (t376 == t348) = false := beq_eq_false_iff_ne.mpr c92
          have c92b1 : (t376 != t348) = true := bne_iff_ne.mpr c92
          have H' := Aside0.mk H
          clear H
          have hnb101 := NB378_322.out
          have hnc101 := NB322_378.out
          have hnb102 := NB378_350.out
          have hnc102 := NB350_378.out
          have hnb103 := NB378_363.out
          have hnc103 := NB363_378.out
          have hcz104_0 : w88.cell? ⟨gb378, 0, none⟩ = some (.int .i64 t364) := (blk_cell BK378.out 0).trans rfl
          have hcz104_1 : w88.cell? ⟨gb378, 1, none⟩ = some (.int .i64 t365) := (blk_cell BK378.out 1).trans rfl
          have hcz104_2 : w88.cell? ⟨gb378, 2, none⟩ = some (.int .i64 t366) := (blk_cell BK378.out 2).trans rfl
          have hcz104_3 : w88.cell? ⟨gb378, 3, none⟩ = some (.slice Ao42 t367.length co42) := (blk_cell BK378.out 3).trans rfl
          have hcz104_4 : w88.cell? ⟨gb378, 4, none⟩ = some (.slice Ao43 t370.length co43) := (blk_cell BK378.out 4).trans rfl
          have hcz104_5 : w88.cell? ⟨gb378, 5, none⟩ = some (.slice Ao44 t373.length co44) := (blk_cell BK378.out 5).trans rfl
          have hfz104_0 := blk_frozen BK378.out 0
          have hfz104_1 := blk_frozen BK378.out 1
          have hfz104_2 := blk_frozen BK378.out 2
          have hfz104_3 := blk_frozen BK378.out 3
          have hfz104_4 := blk_frozen BK378.out 4
          have hfz104_5 := blk_frozen BK378.out 5
          have hnb105 := NB350_322.out
          have hnc105 := NB322_350.out
          have hnb106 := NB350_363.out
          have hnc106 := NB363_350.out
          have hcz107_0 : w88.cell? ⟨gb350, 0, none⟩ = some (.int .i64 t336) := (blk_cell BK350.out 0).trans rfl
          have hcz107_1 : w88.cell? ⟨gb350, 1, none⟩ = some (.int .i64 t337) := (blk_cell BK350.out 1).trans rfl
          have hcz107_2 : w88.cell? ⟨gb350, 2, none⟩ = some (.int .i64 t338) := (blk_cell BK350.out 2).trans rfl
          have hcz107_3 : w88.cell? ⟨gb350, 3, none⟩ = some (.slice Ao24 t339.length co24) := (blk_cell BK350.out 3).trans rfl
          have hcz107_4 : w88.cell? ⟨gb350, 4, none⟩ = some (.slice Ao25 t342.length co25) := (blk_cell BK350.out 4).trans rfl
          have hcz107_5 : w88.cell? ⟨gb350, 5, none⟩ = some (.slice Ao26 t345.length co26) := (blk_cell BK350.out 5).trans rfl
          have hfz107_0 := blk_frozen BK350.out 0
          have hfz107_1 := blk_frozen BK350.out 1
          have hfz107_2 := blk_frozen BK350.out 2
          have hfz107_3 := blk_frozen BK350.out 3
          have hfz107_4 := blk_frozen BK350.out 4
          have hfz107_5 := blk_frozen BK350.out 5
          (try clear BK363); (try clear GW363); (try clear GE363); (try clear NB363_322); (try clear NB322_363); (try clear NB363_350); (try clear NB350_363); (try clear NB363_378); (try clear NB378_363)
          go_wp2_with (first | (go_at_call 16; (with_reducible refine (laws_eqModel.calls kj10 t364 t365 t366 _ _ t367 _ _ t370 _ _ t373 t336 t337 t338 _ _ t339 _ _ t342 _ _ t345 true _ ?side1 ?side2 ?side3 ?side4 ?side5 ?side6 ?side7 ?side8 ?side9 ?side10 ?side11 ?side12 A90.out).mono ?_); (case side1 => exact Kd.C_o HO_379003); (case side2 => exact (Kd.R_reads' HO_379003.out).2.1); (case side3 => exact Kd.C_o HO_379004); (case side4 => exact (Kd.R_reads' HO_379004.out).2.1); (case side5 => exact Kd.C_o HO_379005); (case side6 => exact (Kd.R_reads' HO_379005.out).2.1); (case side7 => exact Kd.C_o HO_351003); (case side8 => exact (Kd.R_reads' HO_351003.out).2.1); (case side9 => exact Kd.C_o HO_351004); (case side10 => exact (Kd.R_reads' HO_351004.out).2.1); (case side11 => exact Kd.C_o HO_351005); (case side12 => exact (Kd.R_reads' HO_351005.out).2.1); rintro e w108 ⟨rfl, hb⟩; have n0_ := Aside0.mk (Kd.R_below (Kd.R_p HO_351003) hb); have n1_ := Aside0.mk (Kd.R_below (Kd.R_p HO_351004) hb); have n2_ := Aside0.mk (Kd.R_below (Kd.R_p HO_351005) hb); have n3_ := Aside0.mk (Kd.R_below (Kd.R_p HO_364003) hb); have n4_ := Aside0.mk (Kd.R_below (Kd.R_p HO_364004) hb); have n5_ := Aside0.mk (Kd.R_below (Kd.R_p HO_364005) hb); have n6_ := Aside0.mk (Kd.R_below (Kd.R_p HO_379003) hb); have n7_ := Aside0.mk (Kd.R_below (Kd.R_p HO_379004) hb); have n8_ := Aside0.mk (Kd.R_below (Kd.R_p HO_379005) hb); have n9_ := Aside0.mk (blk_below (kp_ BK322) hb); have n10_ := Aside0.mk (blk_below (kp_ BK350) hb); have n11_ := Aside0.mk (blk_below (kp_ BK378) hb); have n12_ := Aside0.mk (below_step (hb_ HB) hb); clear HO_351003; clear HO_351004; clear HO_351005; clear HO_364003; clear HO_364004; clear HO_364005; clear HO_379003; clear HO_379004; clear HO_379005; clear BK322; clear BK350; clear BK378; clear HB; have HO_351003 := n0_; have HO_351004 := n1_; have HO_351005 := n2_; have HO_364003 := n3_; have HO_364004 := n4_; have HO_364005 := n5_; have HO_379003 := n6_; have HO_379004 := n7_; have HO_379005 := n8_; have BK322 := n9_; have BK350 := n10_; have BK378 := n11_; have HB := n12_; clear n0_ n1_ n2_ n3_ n4_ n5_ n6_ n7_ n8_ n9_ n10_ n11_ n12_; (try clear hb); (try clear hb2); (try clear hk); (try clear hi)))
          go_meet
          case rel => exact ⟨_, (true), (by first | rfl | (simp; done) | (simp [*]; done)), H', ⟨by have := HJ10.out; first | omega | exact Nat.le_refl _⟩, ⟨Kd.R_pp (Kd.R_mono HO_351003.out (fun _ hk => ⟨hk.1, ⟨hk.2.1, ⟨hk.2.2.2.2.2.1, ⟨hk.2.2.2.2.2.2.1, hk.2.2.2.2.2.2.2⟩⟩⟩⟩))⟩, ⟨Kd.R_pp (Kd.R_mono HO_351004.out (fun _ hk => ⟨hk.1, ⟨hk.2.1, ⟨hk.2.2.2.2.2.1, ⟨hk.2.2.2.2.2.2.1, hk.2.2.2.2.2.2.2⟩⟩⟩⟩))⟩, ⟨Kd.R_pp (Kd.R_mono HO_351005.out (fun _ hk => ⟨hk.1, ⟨hk.2.1, ⟨hk.2.2.2.2.2.1, ⟨hk.2.2.2.2.2.2.1, hk.2.2.2.2.2.2.2⟩⟩⟩⟩))⟩, ⟨Kd.R_pp (Kd.R_mono HO_379003.out (fun _ hk => ⟨hk.1, ⟨hk.2.1, ⟨hk.2.2.1, ⟨hk.2.2.2.2.2.2.1, hk.2.2.2.2.2.2.2⟩⟩⟩⟩))⟩, ⟨Kd.R_pp (Kd.R_mono HO_379004.out (fun _ hk => ⟨hk.1, ⟨hk.2.1, ⟨hk.2.2.1, ⟨hk.2.2.2.2.2.2.1, hk.2.2.2.2.2.2.2⟩⟩⟩⟩))⟩, ⟨Kd.R_pp (Kd.R_mono HO_379005.out (fun _ hk => ⟨hk.1, ⟨hk.2.1, ⟨hk.2.2.1, ⟨hk.2.2.2.2.2.2.1, hk.2.2.2.2.2.2.2⟩⟩⟩⟩))⟩, ⟨kp_ BK322⟩, ⟨kp_ BK350⟩, ⟨kp_ BK378⟩, ⟨hb_ HB⟩⟩
        ·replace c91 := Bool.eq_false_iff.mpr c91
         subst c91
         have H1 : (laws_FnExactCoarseModel.j1 kj10 t348 t349 true a0_0 a0_1 a0_2 l0_3 l0_4 l0_5 t336 t337 t338 t339 t342 t345 t364 t365 t366 t367 t370 t373) = some r := by rw [if_neg (show ¬ (false = true) by decide)] at H; exact H
         clear H
         have H := H1
         clear H1
         have H' := Aside0.mk H
         clear H
         have hnb109 := NB378_322.out
         have hnc109 := NB322_378.out
         have hnb110 := NB378_350.out
         have hnc110 := NB350_378.out
         have hnb111 := NB378_363.out
         have hnc111 := NB363_378.out
         have hcz112_0 : w88.cell? ⟨gb378, 0, none⟩ = some (.int .i64 t364) := (blk_cell BK378.out 0).trans rfl
         have hcz112_1 : w88.cell? ⟨gb378, 1, none⟩ = some (.int .i64 t365) := (blk_cell BK378.out 1).trans rfl
         have hcz112_2 : w88.cell? ⟨gb378, 2, none⟩ = some (.int .i64 t366) := (blk_cell BK378.out 2).trans rfl
         have hcz112_3 : w88.cell? ⟨gb378, 3, none⟩ = some (.slice Ao42 t367.length co42) := (blk_cell BK378.out 3).trans rfl
         have hcz112_4 : w88.cell? ⟨gb378, 4, none⟩ = some (.slice Ao43 t370.length co43) := (blk_cell BK378.out 4).trans rfl
         have hcz112_5 : w88.cell? ⟨gb378, 5, none⟩ = some (.slice Ao44 t373.length co44) := (blk_cell BK378.out 5).trans rfl
         have hfz112_0 := blk_frozen BK378.out 0
         have hfz112_1 := blk_frozen BK378.out 1
         have hfz112_2 := blk_frozen BK378.out 2
         have hfz112_3 := blk_frozen BK378.out 3
         have hfz112_4 := blk_frozen BK378.out 4
         have hfz112_5 := blk_frozen BK378.out 5
         have hnb113 := NB350_322.out
         have hnc113 := NB322_350.out
         have hnb114 := NB350_363.out
         have hnc114 := NB363_350.out
         have hcz115_0 : w88.cell? ⟨gb350, 0, none⟩ = some (.int .i64 t336) := (blk_cell BK350.out 0).trans rfl
         have hcz115_1 : w88.cell? ⟨gb350, 1, none⟩ = some (.int .i64 t337) := (blk_cell BK350.out 1).trans rfl
         have hcz115_2 : w88.cell? ⟨gb350, 2, none⟩ = some (.int .i64 t338) := (blk_cell BK350.out 2).trans rfl
         have hcz115_3 : w88.cell? ⟨gb350, 3, none⟩ = some (.slice Ao24 t339.length co24) := (blk_cell BK350.out 3).trans rfl
         have hcz115_4 : w88.cell? ⟨gb350, 4, none⟩ = some (.slice Ao25 t342.length co25) := (blk_cell BK350.out 4).trans rfl
         have hcz115_5 : w88.cell? ⟨gb350, 5, none⟩ = some (.slice Ao26 t345.length co26) := (blk_cell BK350.out 5).trans rfl
         have hfz115_0 := blk_frozen BK350.out 0
         have hfz115_1 := blk_frozen BK350.out 1
         have hfz115_2 := blk_frozen BK350.out 2
         have hfz115_3 := blk_frozen BK350.out 3
         have hfz115_4 := blk_frozen BK350.out 4
         have hfz115_5 := blk_frozen BK350.out 5
         (try clear BK363); (try clear GW363); (try clear GE363); (try clear NB363_322); (try clear NB322_363); (try clear NB363_350); (try clear NB350_363); (try clear NB363_378); (try clear NB378_363)
         go_wp2_with (first | (go_at_call 16; (with_reducible refine (laws_eqModel.calls kj10 t364 t365 t366 _ _ t367 _ _ t370 _ _ t373 t336 t337 t338 _ _ t339 _ _ t342 _ _ t345 false _ ?side1 ?side2 ?side3 ?side4 ?side5 ?side6 ?side7 ?side8 ?side9 ?side10 ?side11 ?side12 A90.out).mono ?_); (case side1 => exact Kd.C_o HO_379003); (case side2 => exact (Kd.R_reads' HO_379003.out).2.1); (case side3 => exact Kd.C_o HO_379004); (case side4 => exact (Kd.R_reads' HO_379004.out).2.1); (case side5 => exact Kd.C_o HO_379005); (case side6 => exact (Kd.R_reads' HO_379005.out).2.1); (case side7 => exact Kd.C_o HO_351003); (case side8 => exact (Kd.R_reads' HO_351003.out).2.1); (case side9 => exact Kd.C_o HO_351004); (case side10 => exact (Kd.R_reads' HO_351004.out).2.1); (case side11 => exact Kd.C_o HO_351005); (case side12 => exact (Kd.R_reads' HO_351005.out).2.1); rintro e w116 ⟨rfl, hb⟩; have n0_ := Aside0.mk (Kd.R_below (Kd.R_p HO_351003) hb); have n1_ := Aside0.mk (Kd.R_below (Kd.R_p HO_351004) hb); have n2_ := Aside0.mk (Kd.R_below (Kd.R_p HO_351005) hb); have n3_ := Aside0.mk (Kd.R_below (Kd.R_p HO_364003) hb); have n4_ := Aside0.mk (Kd.R_below (Kd.R_p HO_364004) hb); have n5_ := Aside0.mk (Kd.R_below (Kd.R_p HO_364005) hb); have n6_ := Aside0.mk (Kd.R_below (Kd.R_p HO_379003) hb); have n7_ := Aside0.mk (Kd.R_below (Kd.R_p HO_379004) hb); have n8_ := Aside0.mk (Kd.R_below (Kd.R_p HO_379005) hb); have n9_ := Aside0.mk (blk_below (kp_ BK322) hb); have n10_ := Aside0.mk (blk_below (kp_ BK350) hb); have n11_ := Aside0.mk (blk_below (kp_ BK378) hb); have n12_ := Aside0.mk (below_step (hb_ HB) hb); clear HO_351003; clear HO_351004; clear HO_351005; clear HO_364003; clear HO_364004; clear HO_364005; clear HO_379003; clear HO_379004; clear HO_379005; clear BK322; clear BK350; clear BK378; clear HB; have HO_351003 := n0_; have HO_351004 := n1_; have HO_351005 := n2_; have HO_364003 := n3_; have HO_364004 := n4_; have HO_364005 := n5_; have HO_379003 := n6_; have HO_379004 := n7_; have HO_379005 := n8_; have BK322 := n9_; have BK350 := n10_; have BK378 := n11_; have HB := n12_; clear n0_ n1_ n2_ n3_ n4_ n5_ n6_ n7_ n8_ n9_ n10_ n11_ n12_; (try clear hb); (try clear hb2); (try clear hk); (try clear hi)))
         go_meet
         case rel => exact ⟨_, (true), (by first | rfl | (simp; done) | (simp [*]; done)), H', ⟨by have := HJ10.out; first | omega | exact Nat.le_refl _⟩, ⟨Kd.R_pp (Kd.R_mono HO_351003.out (fun _ hk => ⟨hk.1, ⟨hk.2.1, ⟨hk.2.2.2.2.2.1, ⟨hk.2.2.2.2.2.2.1, hk.2.2.2.2.2.2.2⟩⟩⟩⟩))⟩, ⟨Kd.R_pp (Kd.R_mono HO_351004.out (fun _ hk => ⟨hk.1, ⟨hk.2.1, ⟨hk.2.2.2.2.2.1, ⟨hk.2.2.2.2.2.2.1, hk.2.2.2.2.2.2.2⟩⟩⟩⟩))⟩, ⟨Kd.R_pp (Kd.R_mono HO_351005.out (fun _ hk => ⟨hk.1, ⟨hk.2.1, ⟨hk.2.2.2.2.2.1, ⟨hk.2.2.2.2.2.2.1, hk.2.2.2.2.2.2.2⟩⟩⟩⟩))⟩, ⟨Kd.R_pp (Kd.R_mono HO_379003.out (fun _ hk => ⟨hk.1, ⟨hk.2.1, ⟨hk.2.2.1, ⟨hk.2.2.2.2.2.2.1, hk.2.2.2.2.2.2.2⟩⟩⟩⟩))⟩, ⟨Kd.R_pp (Kd.R_mono HO_379004.out (fun _ hk => ⟨hk.1, ⟨hk.2.1, ⟨hk.2.2.1, ⟨hk.2.2.2.2.2.2.1, hk.2.2.2.2.2.2.2⟩⟩⟩⟩))⟩, ⟨Kd.R_pp (Kd.R_mono HO_379005.out (fun _ hk => ⟨hk.1, ⟨hk.2.1, ⟨hk.2.2.1, ⟨hk.2.2.2.2.2.2.1, hk.2.2.2.2.2.2.2⟩⟩⟩⟩))⟩, ⟨kp_ BK322⟩, ⟨kp_ BK350⟩, ⟨kp_ BK378⟩, ⟨hb_ HB⟩⟩
      case rest =>
       clear HC77
       (try clear c1); (try clear c2); (try clear p2); (try clear c3); (try clear c3b0); (try clear c4); (try clear c5); (try clear c6); (try clear c7); (try clear c8); (try clear c9); (try clear c10); (try clear c11); (try clear c13); (try clear c16); (try clear c22); (try clear c30); (try clear c31); (try clear c33); (try clear c34); (try clear c35); (try clear c38); (try clear c39); (try clear c40); (try clear c46); (try clear c47); (try clear c47b0); (try clear c47b1); (try clear c48); (try clear c49); (try clear c50); (try clear c52); (try clear c53); (try clear c56); (try clear c57); (try clear c58); (try clear c60); (try clear c61); (try clear c64); (try clear c65); (try clear c66); (try clear c68); (try clear c69); (try clear c72); (try clear c75); (try clear c84); (try clear c85); (try clear c86); (try clear c89); (try clear c89b0); (try clear c91); (try clear c92); (try clear c92b0); (try clear c92b1); (try clear c93); (try clear c94); (try clear c95); (try clear c97); (try clear c98); (try clear c101); (try clear c102); (try clear c103); (try clear c105); (try clear c106); (try clear c109); (try clear c110); (try clear c111); (try clear c113); (try clear c114); (try clear hcz87_0); (try clear hcz87_1); (try clear hcz87_2); (try clear hcz87_3); (try clear hcz87_4); (try clear hcz87_5); (try clear hfz87_0); (try clear hfz87_1); (try clear hfz87_2); (try clear hfz87_3); (try clear hfz87_4); (try clear hfz87_5)
       obtain ⟨kq, x76_76, rfl, HA, HJ76, HO_351003, HO_351004, HO_351005, HO_379003, HO_379004, HO_379005, BK322, BK350, BK378, HB⟩ := hcut
       cases kq with
       | zero => exact absurd HA.out (by simp [laws_FnExactCoarseModel.j1])
       | succ kj76 =>
        have H := HA.out
        clear HA
        simp only [laws_FnExactCoarseModel.j1] at H
        by_cases c117 : x76_76 = true
        ·subst c117
         have H1 : (some false) = some r := by rw [if_pos rfl] at H; exact H
         clear H
         have H := H1
         clear H1
         obtain rfl := Option.some.inj H
         go_wp2
         go_ret
         exact ⟨by first | rfl | (simp [errW_none, errW_some] <;> rfl) | (simp [*, errW_none, errW_some] <;> rfl), hb_ HB⟩
        ·replace c117 := Bool.eq_false_iff.mpr c117
         subst c117
         have H1 : ((laws_markModel.f kj76 t364 t365 t366 t367 t370 t373 1).bind fun bt398 => ((laws_heldModel.f kj76 t364 t365 t366 bt398.2.1 bt398.2.2.1 bt398.2.2.2 1).bind fun t402 => (if t402 < 0 then (some false) else (if t402 = bt398.1 then ((laws_toModel.f kj76 a0_0 a0_1 a0_2 l0_3 l0_4 l0_5).bind fun bt403 => ((impl_CoarseModel.f kj76 bt403.1 bt403.2.1 bt403.2.2.1 bt403.2.2.2.1 bt403.2.2.2.2.1 bt403.2.2.2.2.2).bind fun bt415 => ((laws_eqModel.f kj76 bt415.1 bt415.2.1 bt415.2.2.1 bt415.2.2.2.1 bt415.2.2.2.2.1 bt415.2.2.2.2.2.1 t336 t337 t338 t339 t342 t345).bind fun t430 => (if t430 = true then (if bt415.2.2.2.2.2.2.1 = t348 then (laws_FnExactCoarseModel.j2 kj76 bt398.1 (bt415.2.2.2.2.2.2.2 != t349) t364 t365 t366 bt398.2.1 bt398.2.2.1 bt398.2.2.2) else (laws_FnExactCoarseModel.j2 kj76 bt398.1 true t364 t365 t366 bt398.2.1 bt398.2.2.1 bt398.2.2.2)) else (laws_FnExactCoarseModel.j2 kj76 bt398.1 true t364 t365 t366 bt398.2.1 bt398.2.2.1 bt398.2.2.2))))) else (some false))))) = some r := by rw [if_neg (show ¬ (false = true) by decide)] at H; exact H
         clear H
         have H := H1
         clear H1
         replace H := Option.bind_eq_some_iff.mp H
         obtain ⟨⟨t398, t399, t400, t401⟩, A1180, H⟩ := H
         replace H : ((laws_heldModel.f kj76 t364 t365 t366 t399 t400 t401 1).bind fun t402 => (if t402 < 0 then (some false) else (if t402 = t398 then ((laws_toModel.f kj76 a0_0 a0_1 a0_2 l0_3 l0_4 l0_5).bind fun bt403 => ((impl_CoarseModel.f kj76 bt403.1 bt403.2.1 bt403.2.2.1 bt403.2.2.2.1 bt403.2.2.2.2.1 bt403.2.2.2.2.2).bind fun bt415 => ((laws_eqModel.f kj76 bt415.1 bt415.2.1 bt415.2.2.1 bt415.2.2.2.1 bt415.2.2.2.2.1 bt415.2.2.2.2.2.1 t336 t337 t338 t339 t342 t345).bind fun t430 => (if t430 = true then (if bt415.2.2.2.2.2.2.1 = t348 then (laws_FnExactCoarseModel.j2 kj76 t398 (bt415.2.2.2.2.2.2.2 != t349) t364 t365 t366 t399 t400 t401) else (laws_FnExactCoarseModel.j2 kj76 t398 true t364 t365 t366 t399 t400 t401)) else (laws_FnExactCoarseModel.j2 kj76 t398 true t364 t365 t366 t399 t400 t401))))) else (some false)))) = some r := H
         have A118 := Aside0.mk A1180
         clear A1180
         replace H := Option.bind_eq_some_iff.mp H
         obtain ⟨t402, A1190, H⟩ := H
         replace H : (if t402 < 0 then (some false) else (if t402 = t398 then ((laws_toModel.f kj76 a0_0 a0_1 a0_2 l0_3 l0_4 l0_5).bind fun bt403 => ((impl_CoarseModel.f kj76 bt403.1 bt403.2.1 bt403.2.2.1 bt403.2.2.2.1 bt403.2.2.2.2.1 bt403.2.2.2.2.2).bind fun bt415 => ((laws_eqModel.f kj76 bt415.1 bt415.2.1 bt415.2.2.1 bt415.2.2.2.1 bt415.2.2.2.2.1 bt415.2.2.2.2.2.1 t336 t337 t338 t339 t342 t345).bind fun t430 => (if t430 = true then (if bt415.2.2.2.2.2.2.1 = t348 then (laws_FnExactCoarseModel.j2 kj76 t398 (bt415.2.2.2.2.2.2.2 != t349) t364 t365 t366 t399 t400 t401) else (laws_FnExactCoarseModel.j2 kj76 t398 true t364 t365 t366 t399 t400 t401)) else (laws_FnExactCoarseModel.j2 kj76 t398 true t364 t365 t366 t399 t400 t401))))) else (some false))) = some r := H
         have A119 := Aside0.mk A1190
         clear A1190
         by_cases c120 : t402 < 0
         ·rw [if_pos c120] at H
          have c120b0 : decide (t402 < 0) = true := decide_eq_true c120
          clear c120
          obtain rfl := Option.some.inj H
          have hnb121 := NB378_322.out
          have hnc121 := NB322_378.out
          have hnb122 := NB378_350.out
          have hnc122 := NB350_378.out
          have hcz123_0 : wc.cell? ⟨gb378, 0, none⟩ = some (.int .i64 t364) := (blk_cell BK378.out 0).trans rfl
          have hcz123_1 : wc.cell? ⟨gb378, 1, none⟩ = some (.int .i64 t365) := (blk_cell BK378.out 1).trans rfl
          have hcz123_2 : wc.cell? ⟨gb378, 2, none⟩ = some (.int .i64 t366) := (blk_cell BK378.out 2).trans rfl
          have hcz123_3 : wc.cell? ⟨gb378, 3, none⟩ = some (.slice Ao42 t367.length co42) := (blk_cell BK378.out 3).trans rfl
          have hcz123_4 : wc.cell? ⟨gb378, 4, none⟩ = some (.slice Ao43 t370.length co43) := (blk_cell BK378.out 4).trans rfl
          have hcz123_5 : wc.cell? ⟨gb378, 5, none⟩ = some (.slice Ao44 t373.length co44) := (blk_cell BK378.out 5).trans rfl
          have hfz123_0 := blk_frozen BK378.out 0
          have hfz123_1 := blk_frozen BK378.out 1
          have hfz123_2 := blk_frozen BK378.out 2
          have hfz123_3 := blk_frozen BK378.out 3
          have hfz123_4 := blk_frozen BK378.out 4
          have hfz123_5 := blk_frozen BK378.out 5
          (try clear BK322); (try clear GW322); (try clear GE322); (try clear NB322_350); (try clear NB350_322); (try clear NB322_378); (try clear NB378_322); (try clear BK350); (try clear GW350); (try clear GE350); (try clear NB350_322); (try clear NB322_350); (try clear NB350_378); (try clear NB378_350)
          go_wp2_with (first | ((with_reducible refine gate_callee (f := 35) rfl ?_); refine gl_ (some 79) Try.func35 #[.agg #[.int .i64 t364, .int .i64 t365, .int .i64 t366, .slice Ao42 t367.length co42, .slice Ao43 t370.length co43, .slice Ao44 t373.length co44], .int .i64 1] rfl rfl rfl ?_; (with_reducible refine (laws_markModel.calls kj76 t364 t365 t366 (fun k_ => some k_ = (.slice Ao42 t367.length co42 : Value).ownBlock) (.slice Ao42 t367.length co42) t367 (fun k_ => some k_ = (.slice Ao43 t370.length co43 : Value).ownBlock) (.slice Ao43 t370.length co43) t370 (fun k_ => some k_ = (.slice Ao44 t373.length co44 : Value).ownBlock) (.slice Ao44 t373.length co44) t373 1 t398 t399 t400 t401 w _ ?side1 ?side2 ?side3 ?side4 ?side5 ?side6 ?side7 ?side8 ?side9 ?side10 A118.out).mono ?_); (case side1 => exact hb_ HB); (case side2 => exact Kd.R_tight rfl HO_379003.out); (case side3 => exact fun k_ e_ => (HO_379003.out.1 k_ e_.symm).2.2.2.1); (case side4 => exact fun k_ e_ => (HO_379003.out.1 k_ e_.symm).2.2.2.2); (case side5 => exact Kd.R_tight rfl HO_379004.out); (case side6 => exact fun k_ e_ => (HO_379004.out.1 k_ e_.symm).2.2.2.1); (case side7 => exact fun k_ e_ => (HO_379004.out.1 k_ e_.symm).2.2.2.2); (case side8 => exact Kd.R_tight rfl HO_379005.out); (case side9 => exact fun k_ e_ => (HO_379005.out.1 k_ e_.symm).2.2.2.1); (case side10 => exact fun k_ e_ => (HO_379005.out.1 k_ e_.symm).2.2.2.2); rintro e w124 ⟨rfl, hy0, hy1, hy2, hb, hkp⟩; refine ⟨_, rfl, ?_⟩; replace HO_351003 := Aside0.mk (Kd.R_mono (ok' := fun k_ => some k_ ≠ (.slice Ao25 t342.length co25 : Value).ownBlock ∧ some k_ ≠ (.slice Ao26 t345.length co26 : Value).ownBlock ∧ some k_ ≠ (.slice Ao42 t367.length co42 : Value).ownBlock ∧ some k_ ≠ (.slice Ao43 t370.length co43 : Value).ownBlock ∧ some k_ ≠ (.slice Ao44 t373.length co44 : Value).ownBlock) (Kd.R_keptB (HO_351003.out) hkp (fun k_ hk_ hs_ => Or.elim hs_ (fun e_ => (hk_.2.2.1) e_) (fun e_ => Or.elim e_ (fun e_ => (hk_.2.2.2.1) e_) (fun e_ => (hk_.2.2.2.2) e_)))) (fun k_ hk_ => ⟨hk_.1.1, hk_.1.2.1, hk_.1.2.2.1, hk_.1.2.2.2.1, hk_.1.2.2.2.2⟩)); replace HO_351004 := Aside0.mk (Kd.R_mono (ok' := fun k_ => some k_ ≠ (.slice Ao24 t339.length co24 : Value).ownBlock ∧ some k_ ≠ (.slice Ao26 t345.length co26 : Value).ownBlock ∧ some k_ ≠ (.slice Ao42 t367.length co42 : Value).ownBlock ∧ some k_ ≠ (.slice Ao43 t370.length co43 : Value).ownBlock ∧ some k_ ≠ (.slice Ao44 t373.length co44 : Value).ownBlock) (Kd.R_keptB (HO_351004.out) hkp (fun k_ hk_ hs_ => Or.elim hs_ (fun e_ => (hk_.2.2.1) e_) (fun e_ => Or.elim e_ (fun e_ => (hk_.2.2.2.1) e_) (fun e_ => (hk_.2.2.2.2) e_)))) (fun k_ hk_ => ⟨hk_.1.1, hk_.1.2.1, hk_.1.2.2.1, hk_.1.2.2.2.1, hk_.1.2.2.2.2⟩)); replace HO_351005 := Aside0.mk (Kd.R_mono (ok' := fun k_ => some k_ ≠ (.slice Ao24 t339.length co24 : Value).ownBlock ∧ some k_ ≠ (.slice Ao25 t342.length co25 : Value).ownBlock ∧ some k_ ≠ (.slice Ao42 t367.length co42 : Value).ownBlock ∧ some k_ ≠ (.slice Ao43 t370.length co43 : Value).ownBlock ∧ some k_ ≠ (.slice Ao44 t373.length co44 : Value).ownBlock) (Kd.R_keptB (HO_351005.out) hkp (fun k_ hk_ hs_ => Or.elim hs_ (fun e_ => (hk_.2.2.1) e_) (fun e_ => Or.elim e_ (fun e_ => (hk_.2.2.2.1) e_) (fun e_ => (hk_.2.2.2.2) e_)))) (fun k_ hk_ => ⟨hk_.1.1, hk_.1.2.1, hk_.1.2.2.1, hk_.1.2.2.2.1, hk_.1.2.2.2.2⟩)); replace BK378 := Aside0.mk (blk_kept (kp_ BK378) hkp (fun hs_ => Or.elim hs_ (fun e_ => (fun e_ => (Kd.R_ne HO_379003.out BK378.out (by decide)) e_) e_) (fun e_ => Or.elim e_ (fun e_ => (fun e_ => (Kd.R_ne HO_379004.out BK378.out (by decide)) e_) e_) (fun e_ => (fun e_ => (Kd.R_ne HO_379005.out BK378.out (by decide)) e_) e_)))); replace HB := Aside0.mk (hb); replace HO_379003 := Aside0.mk (Kd.R_reok rfl hy0 (fun k_ e_ => HO_379003.out.1 k_ e_)); replace HO_379004 := Aside0.mk (Kd.R_reok rfl hy1 (fun k_ e_ => HO_379004.out.1 k_ e_)); replace HO_379005 := Aside0.mk (Kd.R_reok rfl hy2 (fun k_ e_ => HO_379005.out.1 k_ e_)); (try clear hb); (try clear hkp); (try clear hy0); (try clear hy1); (try clear hy2); obtain ⟨hcz125_0, hcz125_1, hcz125_2, hcz125_3, hcz125_4, hcz125_5, hfz125_0, hfz125_1, hfz125_2, hfz125_3, hfz125_4, hfz125_5⟩ := bx6 BK378) | ((with_reducible refine gate_callee (f := 36) rfl ?_); refine gl_ (some 82) Try.func36 #[.agg #[.int .i64 t364, .int .i64 t365, .int .i64 t366, .slice Ao42 t399.length co42, .slice Ao43 t400.length co43, .slice Ao44 t401.length co44], .int .i64 1] rfl rfl rfl ?_ (by (try simp only [List.map_toArray, List.map_cons, List.map_nil]); first | done | (rw [show t399.length = t367.length from (Kd.R_reads' HO_379003.out).1.symm, show t400.length = t370.length from (Kd.R_reads' HO_379004.out).1.symm, show t401.length = t373.length from (Kd.R_reads' HO_379005.out).1.symm] <;> rfl) | rfl | (simp only [List.length_drop, List.length_take]; rfl)); (with_reducible refine (laws_heldModel.calls kj76 t364 t365 t366 _ _ t399 _ _ t400 _ _ t401 1 t402 _ ?side1 ?side2 ?side3 ?side4 ?side5 ?side6 A119.out).mono ?_); (case side1 => exact Kd.C_o HO_379003); (case side2 => rw [show t399.length = t367.length from (Kd.R_reads' HO_379003.out).1.symm]; exact (Kd.R_reads' HO_379003.out).2.1); (case side3 => exact Kd.C_o HO_379004); (case side4 => rw [show t400.length = t370.length from (Kd.R_reads' HO_379004.out).1.symm]; exact (Kd.R_reads' HO_379004.out).2.1); (case side5 => exact Kd.C_o HO_379005); (case side6 => rw [show t401.length = t373.length from (Kd.R_reads' HO_379005.out).1.symm]; exact (Kd.R_reads' HO_379005.out).2.1); rintro e w126 ⟨rfl, hb⟩; refine ⟨_, rfl, ?_⟩; replace HO_351003 := Kd.R_b HO_351003 hb; replace HO_351004 := Kd.R_b HO_351004 hb; replace HO_351005 := Kd.R_b HO_351005 hb; replace HO_379003 := Kd.R_b HO_379003 hb; replace HO_379004 := Kd.R_b HO_379004 hb; replace HO_379005 := Kd.R_b HO_379005 hb; replace BK378 := kb_ BK378 hb; replace HB := hbs_ HB hb; (try clear hb); (try clear hb2); (try clear hk); (try clear hi)))
          go_ret
          exact ⟨by first | rfl | (simp [errW_none, errW_some] <;> rfl) | (simp [*, errW_none, errW_some] <;> rfl), hb_ HB⟩
         ·rw [if_neg c120] at H
          have c120b0 : decide (t402 < 0) = false := decide_eq_false c120
          clear c120
          by_cases c127 : t402 = t398
          ·rw [if_pos c127] at H
           have c127b0 : (t402 == t398) = true := beq_iff_eq.mpr c127
           have c127b1 : (t402 != t398) = false := bne_eq_false_iff_eq.mpr c127
           clear c127
           replace H := Option.bind_eq_some_iff.mp H
           obtain ⟨⟨t403, t404, t405, t406, t409, t412⟩, A1280, H⟩ := H
           replace H : ((impl_CoarseModel.f kj76 t403 t404 t405 t406 t409 t412).bind fun bt415 => ((laws_eqModel.f kj76 bt415.1 bt415.2.1 bt415.2.2.1 bt415.2.2.2.1 bt415.2.2.2.2.1 bt415.2.2.2.2.2.1 t336 t337 t338 t339 t342 t345).bind fun t430 => (if t430 = true then (if bt415.2.2.2.2.2.2.1 = t348 then (laws_FnExactCoarseModel.j2 kj76 t398 (bt415.2.2.2.2.2.2.2 != t349) t364 t365 t366 t399 t400 t401) else (laws_FnExactCoarseModel.j2 kj76 t398 true t364 t365 t366 t399 t400 t401)) else (laws_FnExactCoarseModel.j2 kj76 t398 true t364 t365 t366 t399 t400 t401)))) = some r := H
           have A128 := Aside0.mk A1280
           clear A1280
           replace H := Option.bind_eq_some_iff.mp H
           obtain ⟨⟨t415, t416, t417, t418, t421, t424, t427, t428⟩, A1290, H⟩ := H
           replace H : ((laws_eqModel.f kj76 t415 t416 t417 t418 t421 t424 t336 t337 t338 t339 t342 t345).bind fun t430 => (if t430 = true then (if t427 = t348 then (laws_FnExactCoarseModel.j2 kj76 t398 (t428 != t349) t364 t365 t366 t399 t400 t401) else (laws_FnExactCoarseModel.j2 kj76 t398 true t364 t365 t366 t399 t400 t401)) else (laws_FnExactCoarseModel.j2 kj76 t398 true t364 t365 t366 t399 t400 t401))) = some r := H
           have A129 := Aside0.mk A1290
           clear A1290
           have HC130 := Aside0.mk H
           clear H
           have hnb131 := NB378_322.out
           have hnc131 := NB322_378.out
           have hnb132 := NB378_350.out
           have hnc132 := NB350_378.out
           have hcz133_0 : wc.cell? ⟨gb378, 0, none⟩ = some (.int .i64 t364) := (blk_cell BK378.out 0).trans rfl
           have hcz133_1 : wc.cell? ⟨gb378, 1, none⟩ = some (.int .i64 t365) := (blk_cell BK378.out 1).trans rfl
           have hcz133_2 : wc.cell? ⟨gb378, 2, none⟩ = some (.int .i64 t366) := (blk_cell BK378.out 2).trans rfl
           have hcz133_3 : wc.cell? ⟨gb378, 3, none⟩ = some (.slice Ao42 t367.length co42) := (blk_cell BK378.out 3).trans rfl
           have hcz133_4 : wc.cell? ⟨gb378, 4, none⟩ = some (.slice Ao43 t370.length co43) := (blk_cell BK378.out 4).trans rfl
           have hcz133_5 : wc.cell? ⟨gb378, 5, none⟩ = some (.slice Ao44 t373.length co44) := (blk_cell BK378.out 5).trans rfl
           have hfz133_0 := blk_frozen BK378.out 0
           have hfz133_1 := blk_frozen BK378.out 1
           have hfz133_2 := blk_frozen BK378.out 2
           have hfz133_3 := blk_frozen BK378.out 3
           have hfz133_4 := blk_frozen BK378.out 4
           have hfz133_5 := blk_frozen BK378.out 5
           go_upto_region 25 with (first | ((with_reducible refine gate_callee (f := 35) rfl ?_); refine gl_ (some 79) Try.func35 #[.agg #[.int .i64 t364, .int .i64 t365, .int .i64 t366, .slice Ao42 t367.length co42, .slice Ao43 t370.length co43, .slice Ao44 t373.length co44], .int .i64 1] rfl rfl rfl ?_; (with_reducible refine (laws_markModel.calls kj76 t364 t365 t366 (fun k_ => some k_ = (.slice Ao42 t367.length co42 : Value).ownBlock) (.slice Ao42 t367.length co42) t367 (fun k_ => some k_ = (.slice Ao43 t370.length co43 : Value).ownBlock) (.slice Ao43 t370.length co43) t370 (fun k_ => some k_ = (.slice Ao44 t373.length co44 : Value).ownBlock) (.slice Ao44 t373.length co44) t373 1 t398 t399 t400 t401 w _ ?side1 ?side2 ?side3 ?side4 ?side5 ?side6 ?side7 ?side8 ?side9 ?side10 A118.out).mono ?_); (case side1 => exact hb_ HB); (case side2 => exact Kd.R_tight rfl HO_379003.out); (case side3 => exact fun k_ e_ => (HO_379003.out.1 k_ e_.symm).2.2.2.1); (case side4 => exact fun k_ e_ => (HO_379003.out.1 k_ e_.symm).2.2.2.2); (case side5 => exact Kd.R_tight rfl HO_379004.out); (case side6 => exact fun k_ e_ => (HO_379004.out.1 k_ e_.symm).2.2.2.1); (case side7 => exact fun k_ e_ => (HO_379004.out.1 k_ e_.symm).2.2.2.2); (case side8 => exact Kd.R_tight rfl HO_379005.out); (case side9 => exact fun k_ e_ => (HO_379005.out.1 k_ e_.symm).2.2.2.1); (case side10 => exact fun k_ e_ => (HO_379005.out.1 k_ e_.symm).2.2.2.2); rintro e w134 ⟨rfl, hy0, hy1, hy2, hb, hkp⟩; refine ⟨_, rfl, ?_⟩; replace HO_351003 := Aside0.mk (Kd.R_mono (ok' := fun k_ => some k_ ≠ (.slice Ao25 t342.length co25 : Value).ownBlock ∧ some k_ ≠ (.slice Ao26 t345.length co26 : Value).ownBlock ∧ some k_ ≠ (.slice Ao42 t367.length co42 : Value).ownBlock ∧ some k_ ≠ (.slice Ao43 t370.length co43 : Value).ownBlock ∧ some k_ ≠ (.slice Ao44 t373.length co44 : Value).ownBlock) (Kd.R_keptB (HO_351003.out) hkp (fun k_ hk_ hs_ => Or.elim hs_ (fun e_ => (hk_.2.2.1) e_) (fun e_ => Or.elim e_ (fun e_ => (hk_.2.2.2.1) e_) (fun e_ => (hk_.2.2.2.2) e_)))) (fun k_ hk_ => ⟨hk_.1.1, hk_.1.2.1, hk_.1.2.2.1, hk_.1.2.2.2.1, hk_.1.2.2.2.2⟩)); replace HO_351004 := Aside0.mk (Kd.R_mono (ok' := fun k_ => some k_ ≠ (.slice Ao24 t339.length co24 : Value).ownBlock ∧ some k_ ≠ (.slice Ao26 t345.length co26 : Value).ownBlock ∧ some k_ ≠ (.slice Ao42 t367.length co42 : Value).ownBlock ∧ some k_ ≠ (.slice Ao43 t370.length co43 : Value).ownBlock ∧ some k_ ≠ (.slice Ao44 t373.length co44 : Value).ownBlock) (Kd.R_keptB (HO_351004.out) hkp (fun k_ hk_ hs_ => Or.elim hs_ (fun e_ => (hk_.2.2.1) e_) (fun e_ => Or.elim e_ (fun e_ => (hk_.2.2.2.1) e_) (fun e_ => (hk_.2.2.2.2) e_)))) (fun k_ hk_ => ⟨hk_.1.1, hk_.1.2.1, hk_.1.2.2.1, hk_.1.2.2.2.1, hk_.1.2.2.2.2⟩)); replace HO_351005 := Aside0.mk (Kd.R_mono (ok' := fun k_ => some k_ ≠ (.slice Ao24 t339.length co24 : Value).ownBlock ∧ some k_ ≠ (.slice Ao25 t342.length co25 : Value).ownBlock ∧ some k_ ≠ (.slice Ao42 t367.length co42 : Value).ownBlock ∧ some k_ ≠ (.slice Ao43 t370.length co43 : Value).ownBlock ∧ some k_ ≠ (.slice Ao44 t373.length co44 : Value).ownBlock) (Kd.R_keptB (HO_351005.out) hkp (fun k_ hk_ hs_ => Or.elim hs_ (fun e_ => (hk_.2.2.1) e_) (fun e_ => Or.elim e_ (fun e_ => (hk_.2.2.2.1) e_) (fun e_ => (hk_.2.2.2.2) e_)))) (fun k_ hk_ => ⟨hk_.1.1, hk_.1.2.1, hk_.1.2.2.1, hk_.1.2.2.2.1, hk_.1.2.2.2.2⟩)); replace BK322 := Aside0.mk (blk_kept (kp_ BK322) hkp (fun hs_ => Or.elim hs_ (fun e_ => (fun e_ => (Kd.R_ne HO_379003.out BK322.out (by decide)) e_) e_) (fun e_ => Or.elim e_ (fun e_ => (fun e_ => (Kd.R_ne HO_379004.out BK322.out (by decide)) e_) e_) (fun e_ => (fun e_ => (Kd.R_ne HO_379005.out BK322.out (by decide)) e_) e_)))); replace BK350 := Aside0.mk (blk_kept (kp_ BK350) hkp (fun hs_ => Or.elim hs_ (fun e_ => (fun e_ => (Kd.R_ne HO_379003.out BK350.out (by decide)) e_) e_) (fun e_ => Or.elim e_ (fun e_ => (fun e_ => (Kd.R_ne HO_379004.out BK350.out (by decide)) e_) e_) (fun e_ => (fun e_ => (Kd.R_ne HO_379005.out BK350.out (by decide)) e_) e_)))); replace BK378 := Aside0.mk (blk_kept (kp_ BK378) hkp (fun hs_ => Or.elim hs_ (fun e_ => (fun e_ => (Kd.R_ne HO_379003.out BK378.out (by decide)) e_) e_) (fun e_ => Or.elim e_ (fun e_ => (fun e_ => (Kd.R_ne HO_379004.out BK378.out (by decide)) e_) e_) (fun e_ => (fun e_ => (Kd.R_ne HO_379005.out BK378.out (by decide)) e_) e_)))); replace HB := Aside0.mk (hb); replace HO_379003 := Aside0.mk (Kd.R_reok rfl hy0 (fun k_ e_ => HO_379003.out.1 k_ e_)); replace HO_379004 := Aside0.mk (Kd.R_reok rfl hy1 (fun k_ e_ => HO_379004.out.1 k_ e_)); replace HO_379005 := Aside0.mk (Kd.R_reok rfl hy2 (fun k_ e_ => HO_379005.out.1 k_ e_)); (try clear hb); (try clear hkp); (try clear hy0); (try clear hy1); (try clear hy2); obtain ⟨hcz135_0, hcz135_1, hcz135_2, hcz135_3, hcz135_4, hcz135_5, hfz135_0, hfz135_1, hfz135_2, hfz135_3, hfz135_4, hfz135_5⟩ := bx6 BK378) | ((with_reducible refine gate_callee (f := 36) rfl ?_); refine gl_ (some 82) Try.func36 #[.agg #[.int .i64 t364, .int .i64 t365, .int .i64 t366, .slice Ao42 t399.length co42, .slice Ao43 t400.length co43, .slice Ao44 t401.length co44], .int .i64 1] rfl rfl rfl ?_ (by (try simp only [List.map_toArray, List.map_cons, List.map_nil]); first | done | (rw [show t399.length = t367.length from (Kd.R_reads' HO_379003.out).1.symm, show t400.length = t370.length from (Kd.R_reads' HO_379004.out).1.symm, show t401.length = t373.length from (Kd.R_reads' HO_379005.out).1.symm] <;> rfl) | rfl | (simp only [List.length_drop, List.length_take]; rfl)); (with_reducible refine (laws_heldModel.calls kj76 t364 t365 t366 _ _ t399 _ _ t400 _ _ t401 1 t402 _ ?side1 ?side2 ?side3 ?side4 ?side5 ?side6 A119.out).mono ?_); (case side1 => exact Kd.C_o HO_379003); (case side2 => rw [show t399.length = t367.length from (Kd.R_reads' HO_379003.out).1.symm]; exact (Kd.R_reads' HO_379003.out).2.1); (case side3 => exact Kd.C_o HO_379004); (case side4 => rw [show t400.length = t370.length from (Kd.R_reads' HO_379004.out).1.symm]; exact (Kd.R_reads' HO_379004.out).2.1); (case side5 => exact Kd.C_o HO_379005); (case side6 => rw [show t401.length = t373.length from (Kd.R_reads' HO_379005.out).1.symm]; exact (Kd.R_reads' HO_379005.out).2.1); rintro e w136 ⟨rfl, hb⟩; refine ⟨_, rfl, ?_⟩; replace HO_351003 := Kd.R_b HO_351003 hb; replace HO_351004 := Kd.R_b HO_351004 hb; replace HO_351005 := Kd.R_b HO_351005 hb; replace HO_379003 := Kd.R_b HO_379003 hb; replace HO_379004 := Kd.R_b HO_379004 hb; replace HO_379005 := Kd.R_b HO_379005 hb; replace BK322 := kb_ BK322 hb; replace BK350 := kb_ BK350 hb; replace BK378 := kb_ BK378 hb; replace HB := hbs_ HB hb; (try clear hb); (try clear hb2); (try clear hk); (try clear hi); have hnb137 := NB322_350.out; have hnc137 := NB350_322.out; obtain ⟨hcz138_0, hcz138_1, hcz138_2, hcz138_3, hcz138_4, hcz138_5, hfz138_0, hfz138_1, hfz138_2, hfz138_3, hfz138_4, hfz138_5⟩ := bx6 BK322) | ((with_reducible refine gate_callee (f := 13) rfl ?_); refine gl_ (some 90) Try.func13 #[.agg #[.int .i64 a0_0, .int .i64 a0_1, .int .i64 a0_2, .slice A0_3 l0_3.length c0_3, .slice A0_4 l0_4.length c0_4, .slice A0_5 l0_5.length c0_5]] rfl rfl rfl ?_; (with_reducible refine (laws_toModel.calls kj76 a0_0 a0_1 a0_2 _ _ l0_3 _ _ l0_4 _ _ l0_5 t403 t404 t405 t406 t409 t412 _ ?side1 ?side2 ?side3 ?side4 ?side5 ?side6 A128.out).mono ?_); (case side1 => exact Kd.C_w HR0_3 HB); (case side2 => exact HC0_3.out); (case side3 => exact Kd.C_w HR0_4 HB); (case side4 => exact HC0_4.out); (case side5 => exact Kd.C_w HR0_5 HB); (case side6 => exact HC0_5.out); rintro e w139 ⟨v407, v410, v413, rfl, ho0, ho1, ho2, hb⟩; refine ⟨_, rfl, ?_⟩; have HO408 := Kd.R_lo (Kd.R_nw (Kd.R_nw (Kd.R_nw (Kd.R_nw (Kd.R_nw (Kd.R_nw ho0 HO_351003) HO_351004) HO_351005) HO_379003) HO_379004) HO_379005) HB; have HO411 := Kd.R_lo (Kd.R_nw (Kd.R_nw (Kd.R_nw (Kd.R_nw (Kd.R_nw (Kd.R_nw ho1 HO_351003) HO_351004) HO_351005) HO_379003) HO_379004) HO_379005) HB; have HO414 := Kd.R_lo (Kd.R_nw (Kd.R_nw (Kd.R_nw (Kd.R_nw (Kd.R_nw (Kd.R_nw ho2 HO_351003) HO_351004) HO_351005) HO_379003) HO_379004) HO_379005) HB; replace HO_351003 := Kd.R_e3 HO_351003 ho0 ho1 ho2 hb; replace HO_351004 := Kd.R_e3 HO_351004 ho0 ho1 ho2 hb; replace HO_351005 := Kd.R_e3 HO_351005 ho0 ho1 ho2 hb; replace HO_379003 := Kd.R_e3 HO_379003 ho0 ho1 ho2 hb; replace HO_379004 := Kd.R_e3 HO_379004 ho0 ho1 ho2 hb; replace HO_379005 := Kd.R_e3 HO_379005 ho0 ho1 ho2 hb; replace BK322 := kb_ BK322 hb; replace BK350 := kb_ BK350 hb; replace BK378 := kb_ BK378 hb; replace HB := hbs_ HB hb; (try clear hb); (try clear hb2); (try clear hk); (try clear hi); (try clear ho0); (try clear ho1); (try clear ho2); try clear BK322; try clear GW322; try clear GE322; try clear NB322_350; try clear NB350_322; try clear NB322_378; try clear NB378_322; obtain ⟨Ao140, co140, eo140⟩ := Kd.R_slice HO408.out; subst eo140; obtain ⟨Ao141, co141, eo141⟩ := Kd.R_slice HO411.out; subst eo141; obtain ⟨Ao142, co142, eo142⟩ := Kd.R_slice HO414.out; subst eo142) | ((with_reducible refine gate_callee (f := 34) rfl ?_); refine gl_ (some 91) Try.func34 #[.agg #[.int .i64 t403, .int .i64 t404, .int .i64 t405, .slice Ao140 t406.length co140, .slice Ao141 t409.length co141, .slice Ao142 t412.length co142]] rfl rfl rfl ?_; (with_reducible refine (impl_CoarseModel.calls kj76 t403 t404 t405 _ _ t406 _ _ t409 _ _ t412 t415 t416 t417 t418 t421 t424 t427 t428 _ ?side1 ?side2 ?side3 ?side4 ?side5 ?side6 A129.out).mono ?_); (case side1 => exact Kd.C_o HO408); (case side2 => exact (Kd.R_reads' HO408.out).2.1); (case side3 => exact Kd.C_o HO411); (case side4 => exact (Kd.R_reads' HO411.out).2.1); (case side5 => exact Kd.C_o HO414); (case side6 => exact (Kd.R_reads' HO414.out).2.1); rintro e w143 ⟨v419, v422, v425, rfl, ho0, ho1, ho2, hb⟩; refine ⟨_, rfl, ?_⟩; have HO420 := Kd.R_lo (Kd.R_nw (Kd.R_nw (Kd.R_nw (Kd.R_nw (Kd.R_nw (Kd.R_nw (Kd.R_nw (Kd.R_nw (Kd.R_nw ho0 HO_351003) HO_351004) HO_351005) HO_379003) HO_379004) HO_379005) HO408) HO411) HO414) HB; have HO423 := Kd.R_lo (Kd.R_nw (Kd.R_nw (Kd.R_nw (Kd.R_nw (Kd.R_nw (Kd.R_nw (Kd.R_nw (Kd.R_nw (Kd.R_nw ho1 HO_351003) HO_351004) HO_351005) HO_379003) HO_379004) HO_379005) HO408) HO411) HO414) HB; have HO426 := Kd.R_lo (Kd.R_nw (Kd.R_nw (Kd.R_nw (Kd.R_nw (Kd.R_nw (Kd.R_nw (Kd.R_nw (Kd.R_nw (Kd.R_nw ho2 HO_351003) HO_351004) HO_351005) HO_379003) HO_379004) HO_379005) HO408) HO411) HO414) HB; replace HO_351003 := Kd.R_e3 HO_351003 ho0 ho1 ho2 hb; replace HO_351004 := Kd.R_e3 HO_351004 ho0 ho1 ho2 hb; replace HO_351005 := Kd.R_e3 HO_351005 ho0 ho1 ho2 hb; replace HO_379003 := Kd.R_e3 HO_379003 ho0 ho1 ho2 hb; replace HO_379004 := Kd.R_e3 HO_379004 ho0 ho1 ho2 hb; replace HO_379005 := Kd.R_e3 HO_379005 ho0 ho1 ho2 hb; replace HO408 := Kd.R_e3 HO408 ho0 ho1 ho2 hb; replace HO411 := Kd.R_e3 HO411 ho0 ho1 ho2 hb; replace HO414 := Kd.R_e3 HO414 ho0 ho1 ho2 hb; replace BK350 := kb_ BK350 hb; replace BK378 := kb_ BK378 hb; replace HB := hbs_ HB hb; (try clear hb); (try clear hb2); (try clear hk); (try clear hi); (try clear ho0); (try clear ho1); (try clear ho2); try clear HO408; try clear HO411; try clear HO414) | ((with_reducible refine gate_dst (N := 14) rfl ?_); refine box_event ?hg (N := 14) ?hd (cs := #[.int .i64 0, .int .i64 0, .int .i64 0, .slice none 0 0, .slice none 0 0, .slice none 0 0]) (t := 34) ?hr ?_; (case hd => rfl); (case hg => rfl); (case hr => first | (go_simp; done) | (go_simp; rfl)); intro gb429 hg w144 hbox hb; have BK429 := Aside0.mk (hbox); have GW429 := gs_ hg HB; have GE429 := gs_ hg HB; have NB350_429 := nl_ hg BK350; have NB429_350 := ng_ hg BK350; have NB378_429 := nl_ hg BK378; have NB429_378 := ng_ hg BK378; replace HO_351003 := Kd.R_b HO_351003 hb; replace HO_351004 := Kd.R_b HO_351004 hb; replace HO_351005 := Kd.R_b HO_351005 hb; replace HO_379003 := Kd.R_b HO_379003 hb; replace HO_379004 := Kd.R_b HO_379004 hb; replace HO_379005 := Kd.R_b HO_379005 hb; replace HO420 := Kd.R_b HO420 hb; replace HO423 := Kd.R_b HO423 hb; replace HO426 := Kd.R_b HO426 hb; replace BK350 := kb_ BK350 hb; replace BK378 := kb_ BK378 hb; replace HB := hbs_ HB hb; clear hb hbox hg; have hnb145 := NB429_350.out; have hnc145 := NB350_429.out; have hnb146 := NB429_378.out; have hnc146 := NB378_429.out; obtain ⟨hcz147_0, hcz147_1, hcz147_2, hcz147_3, hcz147_4, hcz147_5, hfz147_0, hfz147_1, hfz147_2, hfz147_3, hfz147_4, hfz147_5⟩ := bx6 BK429; obtain ⟨Ao148, co148, eo148⟩ := Kd.R_slice HO420.out; subst eo148; obtain ⟨Ao149, co149, eo149⟩ := Kd.R_slice HO423.out; subst eo149; obtain ⟨Ao150, co150, eo150⟩ := Kd.R_slice HO426.out; subst eo150))
           (try simp only [Act.put, List.setIfInBounds_toArray, List.set_cons_zero, List.set_cons_succ])
           go_cut [108] (fun v108 wc => ∃ (kq : Nat) (x108_129 : Bool), v108 = .bool x108_129 ∧ Aside0 (laws_FnExactCoarseModel.j2 kq t398 x108_129 t364 t365 t366 t399 t400 t401 = some r) ∧ Aside0 (kq ≤ kj76) ∧ Aside0 (Kd.R (Kd.int .i64) 3 wc w.heap.size (fun k_ => some k_ ≠ ((.slice Ao43 t370.length co43) : Value).ownBlock ∧ some k_ ≠ ((.slice Ao44 t373.length co44) : Value).ownBlock) (.slice Ao42 t367.length co42) t399) ∧ Aside0 (Kd.R (Kd.int .i64) 3 wc w.heap.size (fun k_ => some k_ ≠ ((.slice Ao42 t367.length co42) : Value).ownBlock ∧ some k_ ≠ ((.slice Ao44 t373.length co44) : Value).ownBlock) (.slice Ao43 t370.length co43) t400) ∧ Aside0 (Kd.R (Kd.int .i64) 3 wc w.heap.size (fun k_ => some k_ ≠ ((.slice Ao42 t367.length co42) : Value).ownBlock ∧ some k_ ≠ ((.slice Ao43 t370.length co43) : Value).ownBlock) (.slice Ao44 t373.length co44) t401) ∧ Aside0 (wc.heap[gb378]? = some (.cells #[.int .i64 t364, .int .i64 t365, .int .i64 t366, (.slice Ao42 t367.length co42), (.slice Ao43 t370.length co43), (.slice Ao44 t373.length co44)] 34 (0, 0))) ∧ Aside0 (Below w.heap.size w wc))
           case first =>
            have H := HC130.out
            clear HC130
            replace H := Option.bind_eq_some_iff.mp H
            obtain ⟨t430, A1510, H⟩ := H
            replace H : (if t430 = true then (if t427 = t348 then (laws_FnExactCoarseModel.j2 kj76 t398 (t428 != t349) t364 t365 t366 t399 t400 t401) else (laws_FnExactCoarseModel.j2 kj76 t398 true t364 t365 t366 t399 t400 t401)) else (laws_FnExactCoarseModel.j2 kj76 t398 true t364 t365 t366 t399 t400 t401)) = some r := H
            have A151 := Aside0.mk A1510
            clear A1510
            by_cases c152 : t430 = true
            ·subst c152
             have H1 : (if t427 = t348 then (laws_FnExactCoarseModel.j2 kj76 t398 (t428 != t349) t364 t365 t366 t399 t400 t401) else (laws_FnExactCoarseModel.j2 kj76 t398 true t364 t365 t366 t399 t400 t401)) = some r := by rw [if_pos rfl] at H; exact H
             clear H
             have H := H1
             clear H1
             by_cases c153 : t427 = t348
             ·rw [if_pos c153] at H
              have c153b0 : (t427 == t348) = true := beq_iff_eq.mpr c153
              have c153b1 : (t427 != t348) = false := bne_eq_false_iff_eq.mpr c153
              clear c153
              (first | rw [c153b0] | (simp only [i64_w, i32_w]; rw [c153b0]) | skip)
              have H' := Aside0.mk H
              clear H
              have hnb154 := NB429_350.out
              have hnc154 := NB350_429.out
              have hnb155 := NB429_378.out
              have hnc155 := NB378_429.out
              have hcz156_0 : w144.cell? ⟨gb429, 0, none⟩ = some (.int .i64 0) := (blk_cell BK429.out 0).trans rfl
              have hcz156_1 : w144.cell? ⟨gb429, 1, none⟩ = some (.int .i64 0) := (blk_cell BK429.out 1).trans rfl
              have hcz156_2 : w144.cell? ⟨gb429, 2, none⟩ = some (.int .i64 0) := (blk_cell BK429.out 2).trans rfl
              have hcz156_3 : w144.cell? ⟨gb429, 3, none⟩ = some (.slice none 0 0) := (blk_cell BK429.out 3).trans rfl
              have hcz156_4 : w144.cell? ⟨gb429, 4, none⟩ = some (.slice none 0 0) := (blk_cell BK429.out 4).trans rfl
              have hcz156_5 : w144.cell? ⟨gb429, 5, none⟩ = some (.slice none 0 0) := (blk_cell BK429.out 5).trans rfl
              have hfz156_0 := blk_frozen BK429.out 0
              have hfz156_1 := blk_frozen BK429.out 1
              have hfz156_2 := blk_frozen BK429.out 2
              have hfz156_3 := blk_frozen BK429.out 3
              have hfz156_4 := blk_frozen BK429.out 4
              have hfz156_5 := blk_frozen BK429.out 5
              have hnb157 := NB350_378.out
              have hnc157 := NB378_350.out
              have hcz158_0 : w144.cell? ⟨gb350, 0, none⟩ = some (.int .i64 t336) := (blk_cell BK350.out 0).trans rfl
              have hcz158_1 : w144.cell? ⟨gb350, 1, none⟩ = some (.int .i64 t337) := (blk_cell BK350.out 1).trans rfl
              have hcz158_2 : w144.cell? ⟨gb350, 2, none⟩ = some (.int .i64 t338) := (blk_cell BK350.out 2).trans rfl
              have hcz158_3 : w144.cell? ⟨gb350, 3, none⟩ = some (.slice Ao24 t339.length co24) := (blk_cell BK350.out 3).trans rfl
              have hcz158_4 : w144.cell? ⟨gb350, 4, none⟩ = some (.slice Ao25 t342.length co25) := (blk_cell BK350.out 4).trans rfl
              have hcz158_5 : w144.cell? ⟨gb350, 5, none⟩ = some (.slice Ao26 t345.length co26) := (blk_cell BK350.out 5).trans rfl
              have hfz158_0 := blk_frozen BK350.out 0
              have hfz158_1 := blk_frozen BK350.out 1
              have hfz158_2 := blk_frozen BK350.out 2
              have hfz158_3 := blk_frozen BK350.out 3
              have hfz158_4 := blk_frozen BK350.out 4
              have hfz158_5 := blk_frozen BK350.out 5
              go_wp2_with (first | ((with_reducible refine gate_callee (f := 16) rfl ?_); refine gl_ (some 97) Try.func16 #[.agg #[.int .i64 t415, .int .i64 t416, .int .i64 t417, .slice Ao148 t418.length co148, .slice Ao149 t421.length co149, .slice Ao150 t424.length co150], .agg #[.int .i64 t336, .int .i64 t337, .int .i64 t338, .slice Ao24 t339.length co24, .slice Ao25 t342.length co25, .slice Ao26 t345.length co26]] rfl rfl rfl ?_; (with_reducible refine (laws_eqModel.calls kj76 t415 t416 t417 _ _ t418 _ _ t421 _ _ t424 t336 t337 t338 _ _ t339 _ _ t342 _ _ t345 true _ ?side1 ?side2 ?side3 ?side4 ?side5 ?side6 ?side7 ?side8 ?side9 ?side10 ?side11 ?side12 A151.out).mono ?_); (case side1 => exact (Kd.R_reads' (Kd.R_s HO420 BK429)).2.2); (case side2 => exact (Kd.R_reads' HO420.out).2.1); (case side3 => exact (Kd.R_reads' (Kd.R_s HO423 BK429)).2.2); (case side4 => exact (Kd.R_reads' HO423.out).2.1); (case side5 => exact (Kd.R_reads' (Kd.R_s HO426 BK429)).2.2); (case side6 => exact (Kd.R_reads' HO426.out).2.1); (case side7 => exact (Kd.R_reads' (Kd.R_s HO_351003 BK429)).2.2); (case side8 => exact (Kd.R_reads' HO_351003.out).2.1); (case side9 => exact (Kd.R_reads' (Kd.R_s HO_351004 BK429)).2.2); (case side10 => exact (Kd.R_reads' HO_351004.out).2.1); (case side11 => exact (Kd.R_reads' (Kd.R_s HO_351005 BK429)).2.2); (case side12 => exact (Kd.R_reads' HO_351005.out).2.1); rintro e w159 ⟨rfl, hb⟩; refine ⟨_, rfl, ?_⟩; replace HO_351003 := Kd.R_sb HO_351003 BK429 hb; replace HO_351004 := Kd.R_sb HO_351004 BK429 hb; replace HO_351005 := Kd.R_sb HO_351005 BK429 hb; replace HO_379003 := Kd.R_sb HO_379003 BK429 hb; replace HO_379004 := Kd.R_sb HO_379004 BK429 hb; replace HO_379005 := Kd.R_sb HO_379005 BK429 hb; replace HO420 := Kd.R_sb HO420 BK429 hb; replace HO423 := Kd.R_sb HO423 BK429 hb; replace HO426 := Kd.R_sb HO426 BK429 hb; replace BK350 := kfb_ BK350 NB350_429 hb; replace BK378 := kfb_ BK378 NB378_429 hb; replace HB := hbs_ HB hb; replace BK429 := Aside0.mk (blk_below (g := gb429) (o := .cells #[.int .i64 t415, .int .i64 t416, .int .i64 t417, .slice Ao148 t418.length co148, .slice Ao149 t421.length co149, .slice Ao150 t424.length co150] 34 (0, 0)) (kpq_ (kputs BK429 [(0, _), (1, _), (2, _), (3, _), (4, _), (5, _)])) hb); (try clear hb); (try clear hb2); (try clear hk); (try clear hi)))
              go_meet
              case rel => exact ⟨_, ((t428 != t349)), (by first | rfl | (simp; done) | (simp [*]; done)), H', ⟨by have := HJ10.out; have := HJ76.out; first | omega | exact Nat.le_refl _⟩, ⟨Kd.R_pp (Kd.R_mono HO_379003.out (fun _ hk => ⟨hk.1.1.1.1.1.1.2.2.2.1, hk.1.1.1.1.1.1.2.2.2.2⟩))⟩, ⟨Kd.R_pp (Kd.R_mono HO_379004.out (fun _ hk => ⟨hk.1.1.1.1.1.1.2.2.2.1, hk.1.1.1.1.1.1.2.2.2.2⟩))⟩, ⟨Kd.R_pp (Kd.R_mono HO_379005.out (fun _ hk => ⟨hk.1.1.1.1.1.1.2.2.2.1, hk.1.1.1.1.1.1.2.2.2.2⟩))⟩, ⟨kp_ BK378⟩, ⟨hb_ HB⟩⟩
             ·rw [if_neg c153] at H
              have c153b0 : (t427 == t348) = false := beq_eq_false_iff_ne.mpr c153
              have c153b1 : (t427 != t348) = true := bne_iff_ne.mpr c153
              (first | rw [c153b0] | (simp only [i64_w, i32_w]; rw [c153b0]) | skip)
              have H' := Aside0.mk H
              clear H
              have hnb160 := NB429_350.out
              have hnc160 := NB350_429.out
              have hnb161 := NB429_378.out
              have hnc161 := NB378_429.out
              have hcz162_0 : w144.cell? ⟨gb429, 0, none⟩ = some (.int .i64 0) := (blk_cell BK429.out 0).trans rfl
              have hcz162_1 : w144.cell? ⟨gb429, 1, none⟩ = some (.int .i64 0) := (blk_cell BK429.out 1).trans rfl
              have hcz162_2 : w144.cell? ⟨gb429, 2, none⟩ = some (.int .i64 0) := (blk_cell BK429.out 2).trans rfl
              have hcz162_3 : w144.cell? ⟨gb429, 3, none⟩ = some (.slice none 0 0) := (blk_cell BK429.out 3).trans rfl
              have hcz162_4 : w144.cell? ⟨gb429, 4, none⟩ = some (.slice none 0 0) := (blk_cell BK429.out 4).trans rfl
              have hcz162_5 : w144.cell? ⟨gb429, 5, none⟩ = some (.slice none 0 0) := (blk_cell BK429.out 5).trans rfl
              have hfz162_0 := blk_frozen BK429.out 0
              have hfz162_1 := blk_frozen BK429.out 1
              have hfz162_2 := blk_frozen BK429.out 2
              have hfz162_3 := blk_frozen BK429.out 3
              have hfz162_4 := blk_frozen BK429.out 4
              have hfz162_5 := blk_frozen BK429.out 5
              have hnb163 := NB350_378.out
              have hnc163 := NB378_350.out
              have hcz164_0 : w144.cell? ⟨gb350, 0, none⟩ = some (.int .i64 t336) := (blk_cell BK350.out 0).trans rfl
              have hcz164_1 : w144.cell? ⟨gb350, 1, none⟩ = some (.int .i64 t337) := (blk_cell BK350.out 1).trans rfl
              have hcz164_2 : w144.cell? ⟨gb350, 2, none⟩ = some (.int .i64 t338) := (blk_cell BK350.out 2).trans rfl
              have hcz164_3 : w144.cell? ⟨gb350, 3, none⟩ = some (.slice Ao24 t339.length co24) := (blk_cell BK350.out 3).trans rfl
              have hcz164_4 : w144.cell? ⟨gb350, 4, none⟩ = some (.slice Ao25 t342.length co25) := (blk_cell BK350.out 4).trans rfl
              have hcz164_5 : w144.cell? ⟨gb350, 5, none⟩ = some (.slice Ao26 t345.length co26) := (blk_cell BK350.out 5).trans rfl
              have hfz164_0 := blk_frozen BK350.out 0
              have hfz164_1 := blk_frozen BK350.out 1
              have hfz164_2 := blk_frozen BK350.out 2
              have hfz164_3 := blk_frozen BK350.out 3
              have hfz164_4 := blk_frozen BK350.out 4
              have hfz164_5 := blk_frozen BK350.out 5
              go_wp2_with (first | ((with_reducible refine gate_callee (f := 16) rfl ?_); refine gl_ (some 97) Try.func16 #[.agg #[.int .i64 t415, .int .i64 t416, .int .i64 t417, .slice Ao148 t418.length co148, .slice Ao149 t421.length co149, .slice Ao150 t424.length co150], .agg #[.int .i64 t336, .int .i64 t337, .int .i64 t338, .slice Ao24 t339.length co24, .slice Ao25 t342.length co25, .slice Ao26 t345.length co26]] rfl rfl rfl ?_; (with_reducible refine (laws_eqModel.calls kj76 t415 t416 t417 _ _ t418 _ _ t421 _ _ t424 t336 t337 t338 _ _ t339 _ _ t342 _ _ t345 true _ ?side1 ?side2 ?side3 ?side4 ?side5 ?side6 ?side7 ?side8 ?side9 ?side10 ?side11 ?side12 A151.out).mono ?_); (case side1 => exact (Kd.R_reads' (Kd.R_s HO420 BK429)).2.2); (case side2 => exact (Kd.R_reads' HO420.out).2.1); (case side3 => exact (Kd.R_reads' (Kd.R_s HO423 BK429)).2.2); (case side4 => exact (Kd.R_reads' HO423.out).2.1); (case side5 => exact (Kd.R_reads' (Kd.R_s HO426 BK429)).2.2); (case side6 => exact (Kd.R_reads' HO426.out).2.1); (case side7 => exact (Kd.R_reads' (Kd.R_s HO_351003 BK429)).2.2); (case side8 => exact (Kd.R_reads' HO_351003.out).2.1); (case side9 => exact (Kd.R_reads' (Kd.R_s HO_351004 BK429)).2.2); (case side10 => exact (Kd.R_reads' HO_351004.out).2.1); (case side11 => exact (Kd.R_reads' (Kd.R_s HO_351005 BK429)).2.2); (case side12 => exact (Kd.R_reads' HO_351005.out).2.1); rintro e w165 ⟨rfl, hb⟩; refine ⟨_, rfl, ?_⟩; replace HO_351003 := Kd.R_sb HO_351003 BK429 hb; replace HO_351004 := Kd.R_sb HO_351004 BK429 hb; replace HO_351005 := Kd.R_sb HO_351005 BK429 hb; replace HO_379003 := Kd.R_sb HO_379003 BK429 hb; replace HO_379004 := Kd.R_sb HO_379004 BK429 hb; replace HO_379005 := Kd.R_sb HO_379005 BK429 hb; replace HO420 := Kd.R_sb HO420 BK429 hb; replace HO423 := Kd.R_sb HO423 BK429 hb; replace HO426 := Kd.R_sb HO426 BK429 hb; replace BK350 := kfb_ BK350 NB350_429 hb; replace BK378 := kfb_ BK378 NB378_429 hb; replace HB := hbs_ HB hb; replace BK429 := Aside0.mk (blk_below (g := gb429) (o := .cells #[.int .i64 t415, .int .i64 t416, .int .i64 t417, .slice Ao148 t418.length co148, .slice Ao149 t421.length co149, .slice Ao150 t424.length co150] 34 (0, 0)) (kpq_ (kputs BK429 [(0, _), (1, _), (2, _), (3, _), (4, _), (5, _)])) hb); (try clear hb); (try clear hb2); (try clear hk); (try clear hi)))
              go_meet
              case rel => exact ⟨_, (true), (by first | rfl | (simp; done) | (simp [*]; done)), H', ⟨by have := HJ10.out; have := HJ76.out; first | omega | exact Nat.le_refl _⟩, ⟨Kd.R_pp (Kd.R_mono HO_379003.out (fun _ hk => ⟨hk.1.1.1.1.1.1.2.2.2.1, hk.1.1.1.1.1.1.2.2.2.2⟩))⟩, ⟨Kd.R_pp (Kd.R_mono HO_379004.out (fun _ hk => ⟨hk.1.1.1.1.1.1.2.2.2.1, hk.1.1.1.1.1.1.2.2.2.2⟩))⟩, ⟨Kd.R_pp (Kd.R_mono HO_379005.out (fun _ hk => ⟨hk.1.1.1.1.1.1.2.2.2.1, hk.1.1.1.1.1.1.2.2.2.2⟩))⟩, ⟨kp_ BK378⟩, ⟨hb_ HB⟩⟩
            ·replace c152 := Bool.eq_false_iff.mpr c152
             subst c152
             have H1 : (laws_FnExactCoarseModel.j2 kj76 t398 true t364 t365 t366 t399 t400 t401) = some r := by rw [if_neg (show ¬ (false = true) by decide)] at H; exact H
             clear H
             have H := H1
             clear H1
             have H' := Aside0.mk H
             clear H
             have hnb166 := NB429_350.out
             have hnc166 := NB350_429.out
             have hnb167 := NB429_378.out
             have hnc167 := NB378_429.out
             have hcz168_0 : w144.cell? ⟨gb429, 0, none⟩ = some (.int .i64 0) := (blk_cell BK429.out 0).trans rfl
             have hcz168_1 : w144.cell? ⟨gb429, 1, none⟩ = some (.int .i64 0) := (blk_cell BK429.out 1).trans rfl
             have hcz168_2 : w144.cell? ⟨gb429, 2, none⟩ = some (.int .i64 0) := (blk_cell BK429.out 2).trans rfl
             have hcz168_3 : w144.cell? ⟨gb429, 3, none⟩ = some (.slice none 0 0) := (blk_cell BK429.out 3).trans rfl
             have hcz168_4 : w144.cell? ⟨gb429, 4, none⟩ = some (.slice none 0 0) := (blk_cell BK429.out 4).trans rfl
             have hcz168_5 : w144.cell? ⟨gb429, 5, none⟩ = some (.slice none 0 0) := (blk_cell BK429.out 5).trans rfl
             have hfz168_0 := blk_frozen BK429.out 0
             have hfz168_1 := blk_frozen BK429.out 1
             have hfz168_2 := blk_frozen BK429.out 2
             have hfz168_3 := blk_frozen BK429.out 3
             have hfz168_4 := blk_frozen BK429.out 4
             have hfz168_5 := blk_frozen BK429.out 5
             have hnb169 := NB350_378.out
             have hnc169 := NB378_350.out
             have hcz170_0 : w144.cell? ⟨gb350, 0, none⟩ = some (.int .i64 t336) := (blk_cell BK350.out 0).trans rfl
             have hcz170_1 : w144.cell? ⟨gb350, 1, none⟩ = some (.int .i64 t337) := (blk_cell BK350.out 1).trans rfl
             have hcz170_2 : w144.cell? ⟨gb350, 2, none⟩ = some (.int .i64 t338) := (blk_cell BK350.out 2).trans rfl
             have hcz170_3 : w144.cell? ⟨gb350, 3, none⟩ = some (.slice Ao24 t339.length co24) := (blk_cell BK350.out 3).trans rfl
             have hcz170_4 : w144.cell? ⟨gb350, 4, none⟩ = some (.slice Ao25 t342.length co25) := (blk_cell BK350.out 4).trans rfl
             have hcz170_5 : w144.cell? ⟨gb350, 5, none⟩ = some (.slice Ao26 t345.length co26) := (blk_cell BK350.out 5).trans rfl
             have hfz170_0 := blk_frozen BK350.out 0
             have hfz170_1 := blk_frozen BK350.out 1
             have hfz170_2 := blk_frozen BK350.out 2
             have hfz170_3 := blk_frozen BK350.out 3
             have hfz170_4 := blk_frozen BK350.out 4
             have hfz170_5 := blk_frozen BK350.out 5
             go_wp2_with (first | ((with_reducible refine gate_callee (f := 16) rfl ?_); refine gl_ (some 97) Try.func16 #[.agg #[.int .i64 t415, .int .i64 t416, .int .i64 t417, .slice Ao148 t418.length co148, .slice Ao149 t421.length co149, .slice Ao150 t424.length co150], .agg #[.int .i64 t336, .int .i64 t337, .int .i64 t338, .slice Ao24 t339.length co24, .slice Ao25 t342.length co25, .slice Ao26 t345.length co26]] rfl rfl rfl ?_; (with_reducible refine (laws_eqModel.calls kj76 t415 t416 t417 _ _ t418 _ _ t421 _ _ t424 t336 t337 t338 _ _ t339 _ _ t342 _ _ t345 false _ ?side1 ?side2 ?side3 ?side4 ?side5 ?side6 ?side7 ?side8 ?side9 ?side10 ?side11 ?side12 A151.out).mono ?_); (case side1 => exact (Kd.R_reads' (Kd.R_s HO420 BK429)).2.2); (case side2 => exact (Kd.R_reads' HO420.out).2.1); (case side3 => exact (Kd.R_reads' (Kd.R_s HO423 BK429)).2.2); (case side4 => exact (Kd.R_reads' HO423.out).2.1); (case side5 => exact (Kd.R_reads' (Kd.R_s HO426 BK429)).2.2); (case side6 => exact (Kd.R_reads' HO426.out).2.1); (case side7 => exact (Kd.R_reads' (Kd.R_s HO_351003 BK429)).2.2); (case side8 => exact (Kd.R_reads' HO_351003.out).2.1); (case side9 => exact (Kd.R_reads' (Kd.R_s HO_351004 BK429)).2.2); (case side10 => exact (Kd.R_reads' HO_351004.out).2.1); (case side11 => exact (Kd.R_reads' (Kd.R_s HO_351005 BK429)).2.2); (case side12 => exact (Kd.R_reads' HO_351005.out).2.1); rintro e w171 ⟨rfl, hb⟩; refine ⟨_, rfl, ?_⟩; replace HO_351003 := Kd.R_sb HO_351003 BK429 hb; replace HO_351004 := Kd.R_sb HO_351004 BK429 hb; replace HO_351005 := Kd.R_sb HO_351005 BK429 hb; replace HO_379003 := Kd.R_sb HO_379003 BK429 hb; replace HO_379004 := Kd.R_sb HO_379004 BK429 hb; replace HO_379005 := Kd.R_sb HO_379005 BK429 hb; replace HO420 := Kd.R_sb HO420 BK429 hb; replace HO423 := Kd.R_sb HO423 BK429 hb; replace HO426 := Kd.R_sb HO426 BK429 hb; replace BK350 := kfb_ BK350 NB350_429 hb; replace BK378 := kfb_ BK378 NB378_429 hb; replace HB := hbs_ HB hb; replace BK429 := Aside0.mk (blk_below (g := gb429) (o := .cells #[.int .i64 t415, .int .i64 t416, .int .i64 t417, .slice Ao148 t418.length co148, .slice Ao149 t421.length co149, .slice Ao150 t424.length co150] 34 (0, 0)) (kpq_ (kputs BK429 [(0, _), (1, _), (2, _), (3, _), (4, _), (5, _)])) hb); (try clear hb); (try clear hb2); (try clear hk); (try clear hi)))
             go_meet
             case rel => exact ⟨_, (true), (by first | rfl | (simp; done) | (simp [*]; done)), H', ⟨by have := HJ10.out; have := HJ76.out; first | omega | exact Nat.le_refl _⟩, ⟨Kd.R_pp (Kd.R_mono HO_379003.out (fun _ hk => ⟨hk.1.1.1.1.1.1.2.2.2.1, hk.1.1.1.1.1.1.2.2.2.2⟩))⟩, ⟨Kd.R_pp (Kd.R_mono HO_379004.out (fun _ hk => ⟨hk.1.1.1.1.1.1.2.2.2.1, hk.1.1.1.1.1.1.2.2.2.2⟩))⟩, ⟨Kd.R_pp (Kd.R_mono HO_379005.out (fun _ hk => ⟨hk.1.1.1.1.1.1.2.2.2.1, hk.1.1.1.1.1.1.2.2.2.2⟩))⟩, ⟨kp_ BK378⟩, ⟨hb_ HB⟩⟩
           case rest =>
            clear HC130
            (try clear c1); (try clear c2); (try clear p2); (try clear c3); (try clear c3b0); (try clear c4); (try clear c5); (try clear c6); (try clear c7); (try clear c8); (try clear c9); (try clear c10); (try clear c11); (try clear c12); (try clear c13); (try clear c14); (try clear c15); (try clear c16); (try clear c22); (try clear c30); (try clear c31); (try clear c33); (try clear c34); (try clear c35); (try clear c36); (try clear c38); (try clear c39); (try clear c40); (try clear c46); (try clear c47); (try clear c47b0); (try clear c47b1); (try clear c48); (try clear c49); (try clear c50); (try clear c52); (try clear c53); (try clear c56); (try clear c57); (try clear c58); (try clear c60); (try clear c61); (try clear c64); (try clear c65); (try clear c66); (try clear c68); (try clear c69); (try clear c72); (try clear c75); (try clear c84); (try clear c85); (try clear c86); (try clear c89); (try clear c89b0); (try clear c91); (try clear c92); (try clear c92b0); (try clear c92b1); (try clear c93); (try clear c94); (try clear c95); (try clear c97); (try clear c98); (try clear c101); (try clear c102); (try clear c103); (try clear c105); (try clear c106); (try clear c109); (try clear c110); (try clear c111); (try clear c113); (try clear c114); (try clear c117); (try clear c120); (try clear c120b0); (try clear c121); (try clear c122); (try clear c127); (try clear c127b0); (try clear c127b1); (try clear c131); (try clear c132); (try clear c137); (try clear c145); (try clear c146); (try clear c152); (try clear c153); (try clear c153b0); (try clear c153b1); (try clear c154); (try clear c155); (try clear c157); (try clear c160); (try clear c161); (try clear c163); (try clear c166); (try clear c167); (try clear c169); (try clear hcz133_0); (try clear hcz133_1); (try clear hcz133_2); (try clear hcz133_3); (try clear hcz133_4); (try clear hcz133_5); (try clear hcz135_0); (try clear hcz135_1); (try clear hcz135_2); (try clear hcz135_3); (try clear hcz135_4); (try clear hcz135_5); (try clear hcz138_0); (try clear hcz138_1); (try clear hcz138_2); (try clear hcz138_3); (try clear hcz138_4); (try clear hcz138_5); (try clear hcz147_0); (try clear hcz147_1); (try clear hcz147_2); (try clear hcz147_3); (try clear hcz147_4); (try clear hcz147_5); (try clear hfz133_0); (try clear hfz133_1); (try clear hfz133_2); (try clear hfz133_3); (try clear hfz133_4); (try clear hfz133_5); (try clear hfz135_0); (try clear hfz135_1); (try clear hfz135_2); (try clear hfz135_3); (try clear hfz135_4); (try clear hfz135_5); (try clear hfz138_0); (try clear hfz138_1); (try clear hfz138_2); (try clear hfz138_3); (try clear hfz138_4); (try clear hfz138_5); (try clear hfz147_0); (try clear hfz147_1); (try clear hfz147_2); (try clear hfz147_3); (try clear hfz147_4); (try clear hfz147_5)
            obtain ⟨kq, x108_129, rfl, HA, HJ129, HO_379003, HO_379004, HO_379005, BK378, HB⟩ := hcut
            have hl379003_129 := (Kd.R_reads' HO_379003.out).1
            rw [hl379003_129] at HO_379003
            (try simp only [hl379003_129])
            (try simp only [hl379003_129] at BK378)
            (try simp only [hl379003_129] at HO_379004)
            (try simp only [hl379003_129] at HO_379005)
            have hl379004_129 := (Kd.R_reads' HO_379004.out).1
            rw [hl379004_129] at HO_379004
            (try simp only [hl379004_129])
            (try simp only [hl379004_129] at BK378)
            (try simp only [hl379004_129] at HO_379003)
            (try simp only [hl379004_129] at HO_379005)
            have hl379005_129 := (Kd.R_reads' HO_379005.out).1
            rw [hl379005_129] at HO_379005
            (try simp only [hl379005_129])
            (try simp only [hl379005_129] at BK378)
            (try simp only [hl379005_129] at HO_379003)
            (try simp only [hl379005_129] at HO_379004)
            cases kq with
            | zero => exact absurd HA.out (by simp [laws_FnExactCoarseModel.j2])
            | succ kj129 =>
             have H := HA.out
             clear HA
             simp only [laws_FnExactCoarseModel.j2] at H
             by_cases c172 : x108_129 = true
             ·subst c172
              have H1 : (some false) = some r := by rw [if_pos rfl] at H; exact H
              clear H
              have H := H1
              clear H1
              obtain rfl := Option.some.inj H
              go_wp2
              go_ret
              exact ⟨by first | rfl | (simp [errW_none, errW_some] <;> rfl) | (simp [*, errW_none, errW_some] <;> rfl), hb_ HB⟩
             ·replace c172 := Bool.eq_false_iff.mpr c172
              subst c172
              have H1 : ((laws_heldModel.f kj129 t364 t365 t366 t399 t400 t401 1).bind fun t431 => (if t431 < 0 then (some false) else (if t431 = t398 then (some true) else (some false)))) = some r := by rw [if_neg (show ¬ (false = true) by decide)] at H; exact H
              clear H
              have H := H1
              clear H1
              replace H := Option.bind_eq_some_iff.mp H
              obtain ⟨t431, A1730, H⟩ := H
              replace H : (if t431 < 0 then (some false) else (if t431 = t398 then (some true) else (some false))) = some r := H
              have A173 := Aside0.mk A1730
              clear A1730
              by_cases c174 : t431 < 0
              ·rw [if_pos c174] at H
               have c174b0 : decide (t431 < 0) = true := decide_eq_true c174
               clear c174
               obtain rfl := Option.some.inj H
               have hcz175_0 : wc.cell? ⟨gb378, 0, none⟩ = some (.int .i64 t364) := (blk_cell BK378.out 0).trans rfl
               have hcz175_1 : wc.cell? ⟨gb378, 1, none⟩ = some (.int .i64 t365) := (blk_cell BK378.out 1).trans rfl
               have hcz175_2 : wc.cell? ⟨gb378, 2, none⟩ = some (.int .i64 t366) := (blk_cell BK378.out 2).trans rfl
               have hcz175_3 : wc.cell? ⟨gb378, 3, none⟩ = some (.slice Ao42 t399.length co42) := (blk_cell BK378.out 3).trans rfl
               have hcz175_4 : wc.cell? ⟨gb378, 4, none⟩ = some (.slice Ao43 t400.length co43) := (blk_cell BK378.out 4).trans rfl
               have hcz175_5 : wc.cell? ⟨gb378, 5, none⟩ = some (.slice Ao44 t401.length co44) := (blk_cell BK378.out 5).trans rfl
               have hfz175_0 := blk_frozen BK378.out 0
               have hfz175_1 := blk_frozen BK378.out 1
               have hfz175_2 := blk_frozen BK378.out 2
               have hfz175_3 := blk_frozen BK378.out 3
               have hfz175_4 := blk_frozen BK378.out 4
               have hfz175_5 := blk_frozen BK378.out 5
               go_wp2_with (first | ((with_reducible refine gate_callee (f := 36) rfl ?_); refine gl_ (some 111) Try.func36 #[.agg #[.int .i64 t364, .int .i64 t365, .int .i64 t366, .slice Ao42 t399.length co42, .slice Ao43 t400.length co43, .slice Ao44 t401.length co44], .int .i64 1] rfl rfl rfl ?_; (with_reducible refine (laws_heldModel.calls kj129 t364 t365 t366 _ _ t399 _ _ t400 _ _ t401 1 t431 _ ?side1 ?side2 ?side3 ?side4 ?side5 ?side6 A173.out).mono ?_); (case side1 => exact Kd.C_o HO_379003); (case side2 => exact (Kd.R_reads' HO_379003.out).2.1); (case side3 => exact Kd.C_o HO_379004); (case side4 => exact (Kd.R_reads' HO_379004.out).2.1); (case side5 => exact Kd.C_o HO_379005); (case side6 => exact (Kd.R_reads' HO_379005.out).2.1); rintro e w176 ⟨rfl, hb⟩; refine ⟨_, rfl, ?_⟩; replace HO_379003 := Kd.R_b HO_379003 hb; replace HO_379004 := Kd.R_b HO_379004 hb; replace HO_379005 := Kd.R_b HO_379005 hb; replace BK378 := kb_ BK378 hb; replace HB := hbs_ HB hb; (try clear hb); (try clear hb2); (try clear hk); (try clear hi)))
               go_ret
               exact ⟨by first | rfl | (simp [errW_none, errW_some] <;> rfl) | (simp [*, errW_none, errW_some] <;> rfl), hb_ HB⟩
              ·rw [if_neg c174] at H
               have c174b0 : decide (t431 < 0) = false := decide_eq_false c174
               clear c174
               by_cases c177 : t431 = t398
               ·rw [if_pos c177] at H
                have c177b0 : (t431 == t398) = true := beq_iff_eq.mpr c177
                have c177b1 : (t431 != t398) = false := bne_eq_false_iff_eq.mpr c177
                clear c177
                obtain rfl := Option.some.inj H
                have hcz178_0 : wc.cell? ⟨gb378, 0, none⟩ = some (.int .i64 t364) := (blk_cell BK378.out 0).trans rfl
                have hcz178_1 : wc.cell? ⟨gb378, 1, none⟩ = some (.int .i64 t365) := (blk_cell BK378.out 1).trans rfl
                have hcz178_2 : wc.cell? ⟨gb378, 2, none⟩ = some (.int .i64 t366) := (blk_cell BK378.out 2).trans rfl
                have hcz178_3 : wc.cell? ⟨gb378, 3, none⟩ = some (.slice Ao42 t399.length co42) := (blk_cell BK378.out 3).trans rfl
                have hcz178_4 : wc.cell? ⟨gb378, 4, none⟩ = some (.slice Ao43 t400.length co43) := (blk_cell BK378.out 4).trans rfl
                have hcz178_5 : wc.cell? ⟨gb378, 5, none⟩ = some (.slice Ao44 t401.length co44) := (blk_cell BK378.out 5).trans rfl
                have hfz178_0 := blk_frozen BK378.out 0
                have hfz178_1 := blk_frozen BK378.out 1
                have hfz178_2 := blk_frozen BK378.out 2
                have hfz178_3 := blk_frozen BK378.out 3
                have hfz178_4 := blk_frozen BK378.out 4
                have hfz178_5 := blk_frozen BK378.out 5
                go_wp2_with (first | ((with_reducible refine gate_callee (f := 36) rfl ?_); refine gl_ (some 111) Try.func36 #[.agg #[.int .i64 t364, .int .i64 t365, .int .i64 t366, .slice Ao42 t399.length co42, .slice Ao43 t400.length co43, .slice Ao44 t401.length co44], .int .i64 1] rfl rfl rfl ?_; (with_reducible refine (laws_heldModel.calls kj129 t364 t365 t366 _ _ t399 _ _ t400 _ _ t401 1 t431 _ ?side1 ?side2 ?side3 ?side4 ?side5 ?side6 A173.out).mono ?_); (case side1 => exact Kd.C_o HO_379003); (case side2 => exact (Kd.R_reads' HO_379003.out).2.1); (case side3 => exact Kd.C_o HO_379004); (case side4 => exact (Kd.R_reads' HO_379004.out).2.1); (case side5 => exact Kd.C_o HO_379005); (case side6 => exact (Kd.R_reads' HO_379005.out).2.1); rintro e w179 ⟨rfl, hb⟩; refine ⟨_, rfl, ?_⟩; replace HO_379003 := Kd.R_b HO_379003 hb; replace HO_379004 := Kd.R_b HO_379004 hb; replace HO_379005 := Kd.R_b HO_379005 hb; replace BK378 := kb_ BK378 hb; replace HB := hbs_ HB hb; (try clear hb); (try clear hb2); (try clear hk); (try clear hi)))
                go_ret
                exact ⟨by first | rfl | (simp [errW_none, errW_some] <;> rfl) | (simp [*, errW_none, errW_some] <;> rfl), hb_ HB⟩
               ·rw [if_neg c177] at H
                have c177b0 : (t431 == t398) = false := beq_eq_false_iff_ne.mpr c177
                have c177b1 : (t431 != t398) = true := bne_iff_ne.mpr c177
                obtain rfl := Option.some.inj H
                have hcz180_0 : wc.cell? ⟨gb378, 0, none⟩ = some (.int .i64 t364) := (blk_cell BK378.out 0).trans rfl
                have hcz180_1 : wc.cell? ⟨gb378, 1, none⟩ = some (.int .i64 t365) := (blk_cell BK378.out 1).trans rfl
                have hcz180_2 : wc.cell? ⟨gb378, 2, none⟩ = some (.int .i64 t366) := (blk_cell BK378.out 2).trans rfl
                have hcz180_3 : wc.cell? ⟨gb378, 3, none⟩ = some (.slice Ao42 t399.length co42) := (blk_cell BK378.out 3).trans rfl
                have hcz180_4 : wc.cell? ⟨gb378, 4, none⟩ = some (.slice Ao43 t400.length co43) := (blk_cell BK378.out 4).trans rfl
                have hcz180_5 : wc.cell? ⟨gb378, 5, none⟩ = some (.slice Ao44 t401.length co44) := (blk_cell BK378.out 5).trans rfl
                have hfz180_0 := blk_frozen BK378.out 0
                have hfz180_1 := blk_frozen BK378.out 1
                have hfz180_2 := blk_frozen BK378.out 2
                have hfz180_3 := blk_frozen BK378.out 3
                have hfz180_4 := blk_frozen BK378.out 4
                have hfz180_5 := blk_frozen BK378.out 5
                go_wp2_with (first | ((with_reducible refine gate_callee (f := 36) rfl ?_); refine gl_ (some 111) Try.func36 #[.agg #[.int .i64 t364, .int .i64 t365, .int .i64 t366, .slice Ao42 t399.length co42, .slice Ao43 t400.length co43, .slice Ao44 t401.length co44], .int .i64 1] rfl rfl rfl ?_; (with_reducible refine (laws_heldModel.calls kj129 t364 t365 t366 _ _ t399 _ _ t400 _ _ t401 1 t431 _ ?side1 ?side2 ?side3 ?side4 ?side5 ?side6 A173.out).mono ?_); (case side1 => exact Kd.C_o HO_379003); (case side2 => exact (Kd.R_reads' HO_379003.out).2.1); (case side3 => exact Kd.C_o HO_379004); (case side4 => exact (Kd.R_reads' HO_379004.out).2.1); (case side5 => exact Kd.C_o HO_379005); (case side6 => exact (Kd.R_reads' HO_379005.out).2.1); rintro e w181 ⟨rfl, hb⟩; refine ⟨_, rfl, ?_⟩; replace HO_379003 := Kd.R_b HO_379003 hb; replace HO_379004 := Kd.R_b HO_379004 hb; replace HO_379005 := Kd.R_b HO_379005 hb; replace BK378 := kb_ BK378 hb; replace HB := hbs_ HB hb; (try clear hb); (try clear hb2); (try clear hk); (try clear hi)))
                go_ret
                exact ⟨by first | rfl | (simp [errW_none, errW_some] <;> rfl) | (simp [*, errW_none, errW_some] <;> rfl), hb_ HB⟩
          ·rw [if_neg c127] at H
           have c127b0 : (t402 == t398) = false := beq_eq_false_iff_ne.mpr c127
           have c127b1 : (t402 != t398) = true := bne_iff_ne.mpr c127
           obtain rfl := Option.some.inj H
           have hnb182 := NB378_322.out
           have hnc182 := NB322_378.out
           have hnb183 := NB378_350.out
           have hnc183 := NB350_378.out
           have hcz184_0 : wc.cell? ⟨gb378, 0, none⟩ = some (.int .i64 t364) := (blk_cell BK378.out 0).trans rfl
           have hcz184_1 : wc.cell? ⟨gb378, 1, none⟩ = some (.int .i64 t365) := (blk_cell BK378.out 1).trans rfl
           have hcz184_2 : wc.cell? ⟨gb378, 2, none⟩ = some (.int .i64 t366) := (blk_cell BK378.out 2).trans rfl
           have hcz184_3 : wc.cell? ⟨gb378, 3, none⟩ = some (.slice Ao42 t367.length co42) := (blk_cell BK378.out 3).trans rfl
           have hcz184_4 : wc.cell? ⟨gb378, 4, none⟩ = some (.slice Ao43 t370.length co43) := (blk_cell BK378.out 4).trans rfl
           have hcz184_5 : wc.cell? ⟨gb378, 5, none⟩ = some (.slice Ao44 t373.length co44) := (blk_cell BK378.out 5).trans rfl
           have hfz184_0 := blk_frozen BK378.out 0
           have hfz184_1 := blk_frozen BK378.out 1
           have hfz184_2 := blk_frozen BK378.out 2
           have hfz184_3 := blk_frozen BK378.out 3
           have hfz184_4 := blk_frozen BK378.out 4
           have hfz184_5 := blk_frozen BK378.out 5
           (try clear BK322); (try clear GW322); (try clear GE322); (try clear NB322_350); (try clear NB350_322); (try clear NB322_378); (try clear NB378_322); (try clear BK350); (try clear GW350); (try clear GE350); (try clear NB350_322); (try clear NB322_350); (try clear NB350_378); (try clear NB378_350)
           go_wp2_with (first | ((with_reducible refine gate_callee (f := 35) rfl ?_); refine gl_ (some 79) Try.func35 #[.agg #[.int .i64 t364, .int .i64 t365, .int .i64 t366, .slice Ao42 t367.length co42, .slice Ao43 t370.length co43, .slice Ao44 t373.length co44], .int .i64 1] rfl rfl rfl ?_; (with_reducible refine (laws_markModel.calls kj76 t364 t365 t366 (fun k_ => some k_ = (.slice Ao42 t367.length co42 : Value).ownBlock) (.slice Ao42 t367.length co42) t367 (fun k_ => some k_ = (.slice Ao43 t370.length co43 : Value).ownBlock) (.slice Ao43 t370.length co43) t370 (fun k_ => some k_ = (.slice Ao44 t373.length co44 : Value).ownBlock) (.slice Ao44 t373.length co44) t373 1 t398 t399 t400 t401 w _ ?side1 ?side2 ?side3 ?side4 ?side5 ?side6 ?side7 ?side8 ?side9 ?side10 A118.out).mono ?_); (case side1 => exact hb_ HB); (case side2 => exact Kd.R_tight rfl HO_379003.out); (case side3 => exact fun k_ e_ => (HO_379003.out.1 k_ e_.symm).2.2.2.1); (case side4 => exact fun k_ e_ => (HO_379003.out.1 k_ e_.symm).2.2.2.2); (case side5 => exact Kd.R_tight rfl HO_379004.out); (case side6 => exact fun k_ e_ => (HO_379004.out.1 k_ e_.symm).2.2.2.1); (case side7 => exact fun k_ e_ => (HO_379004.out.1 k_ e_.symm).2.2.2.2); (case side8 => exact Kd.R_tight rfl HO_379005.out); (case side9 => exact fun k_ e_ => (HO_379005.out.1 k_ e_.symm).2.2.2.1); (case side10 => exact fun k_ e_ => (HO_379005.out.1 k_ e_.symm).2.2.2.2); rintro e w185 ⟨rfl, hy0, hy1, hy2, hb, hkp⟩; refine ⟨_, rfl, ?_⟩; replace HO_351003 := Aside0.mk (Kd.R_mono (ok' := fun k_ => some k_ ≠ (.slice Ao25 t342.length co25 : Value).ownBlock ∧ some k_ ≠ (.slice Ao26 t345.length co26 : Value).ownBlock ∧ some k_ ≠ (.slice Ao42 t367.length co42 : Value).ownBlock ∧ some k_ ≠ (.slice Ao43 t370.length co43 : Value).ownBlock ∧ some k_ ≠ (.slice Ao44 t373.length co44 : Value).ownBlock) (Kd.R_keptB (HO_351003.out) hkp (fun k_ hk_ hs_ => Or.elim hs_ (fun e_ => (hk_.2.2.1) e_) (fun e_ => Or.elim e_ (fun e_ => (hk_.2.2.2.1) e_) (fun e_ => (hk_.2.2.2.2) e_)))) (fun k_ hk_ => ⟨hk_.1.1, hk_.1.2.1, hk_.1.2.2.1, hk_.1.2.2.2.1, hk_.1.2.2.2.2⟩)); replace HO_351004 := Aside0.mk (Kd.R_mono (ok' := fun k_ => some k_ ≠ (.slice Ao24 t339.length co24 : Value).ownBlock ∧ some k_ ≠ (.slice Ao26 t345.length co26 : Value).ownBlock ∧ some k_ ≠ (.slice Ao42 t367.length co42 : Value).ownBlock ∧ some k_ ≠ (.slice Ao43 t370.length co43 : Value).ownBlock ∧ some k_ ≠ (.slice Ao44 t373.length co44 : Value).ownBlock) (Kd.R_keptB (HO_351004.out) hkp (fun k_ hk_ hs_ => Or.elim hs_ (fun e_ => (hk_.2.2.1) e_) (fun e_ => Or.elim e_ (fun e_ => (hk_.2.2.2.1) e_) (fun e_ => (hk_.2.2.2.2) e_)))) (fun k_ hk_ => ⟨hk_.1.1, hk_.1.2.1, hk_.1.2.2.1, hk_.1.2.2.2.1, hk_.1.2.2.2.2⟩)); replace HO_351005 := Aside0.mk (Kd.R_mono (ok' := fun k_ => some k_ ≠ (.slice Ao24 t339.length co24 : Value).ownBlock ∧ some k_ ≠ (.slice Ao25 t342.length co25 : Value).ownBlock ∧ some k_ ≠ (.slice Ao42 t367.length co42 : Value).ownBlock ∧ some k_ ≠ (.slice Ao43 t370.length co43 : Value).ownBlock ∧ some k_ ≠ (.slice Ao44 t373.length co44 : Value).ownBlock) (Kd.R_keptB (HO_351005.out) hkp (fun k_ hk_ hs_ => Or.elim hs_ (fun e_ => (hk_.2.2.1) e_) (fun e_ => Or.elim e_ (fun e_ => (hk_.2.2.2.1) e_) (fun e_ => (hk_.2.2.2.2) e_)))) (fun k_ hk_ => ⟨hk_.1.1, hk_.1.2.1, hk_.1.2.2.1, hk_.1.2.2.2.1, hk_.1.2.2.2.2⟩)); replace BK378 := Aside0.mk (blk_kept (kp_ BK378) hkp (fun hs_ => Or.elim hs_ (fun e_ => (fun e_ => (Kd.R_ne HO_379003.out BK378.out (by decide)) e_) e_) (fun e_ => Or.elim e_ (fun e_ => (fun e_ => (Kd.R_ne HO_379004.out BK378.out (by decide)) e_) e_) (fun e_ => (fun e_ => (Kd.R_ne HO_379005.out BK378.out (by decide)) e_) e_)))); replace HB := Aside0.mk (hb); replace HO_379003 := Aside0.mk (Kd.R_reok rfl hy0 (fun k_ e_ => HO_379003.out.1 k_ e_)); replace HO_379004 := Aside0.mk (Kd.R_reok rfl hy1 (fun k_ e_ => HO_379004.out.1 k_ e_)); replace HO_379005 := Aside0.mk (Kd.R_reok rfl hy2 (fun k_ e_ => HO_379005.out.1 k_ e_)); (try clear hb); (try clear hkp); (try clear hy0); (try clear hy1); (try clear hy2); obtain ⟨hcz186_0, hcz186_1, hcz186_2, hcz186_3, hcz186_4, hcz186_5, hfz186_0, hfz186_1, hfz186_2, hfz186_3, hfz186_4, hfz186_5⟩ := bx6 BK378) | ((with_reducible refine gate_callee (f := 36) rfl ?_); refine gl_ (some 82) Try.func36 #[.agg #[.int .i64 t364, .int .i64 t365, .int .i64 t366, .slice Ao42 t399.length co42, .slice Ao43 t400.length co43, .slice Ao44 t401.length co44], .int .i64 1] rfl rfl rfl ?_ (by (try simp only [List.map_toArray, List.map_cons, List.map_nil]); first | done | (rw [show t399.length = t367.length from (Kd.R_reads' HO_379003.out).1.symm, show t400.length = t370.length from (Kd.R_reads' HO_379004.out).1.symm, show t401.length = t373.length from (Kd.R_reads' HO_379005.out).1.symm] <;> rfl) | rfl | (simp only [List.length_drop, List.length_take]; rfl)); (with_reducible refine (laws_heldModel.calls kj76 t364 t365 t366 _ _ t399 _ _ t400 _ _ t401 1 t402 _ ?side1 ?side2 ?side3 ?side4 ?side5 ?side6 A119.out).mono ?_); (case side1 => exact Kd.C_o HO_379003); (case side2 => rw [show t399.length = t367.length from (Kd.R_reads' HO_379003.out).1.symm]; exact (Kd.R_reads' HO_379003.out).2.1); (case side3 => exact Kd.C_o HO_379004); (case side4 => rw [show t400.length = t370.length from (Kd.R_reads' HO_379004.out).1.symm]; exact (Kd.R_reads' HO_379004.out).2.1); (case side5 => exact Kd.C_o HO_379005); (case side6 => rw [show t401.length = t373.length from (Kd.R_reads' HO_379005.out).1.symm]; exact (Kd.R_reads' HO_379005.out).2.1); rintro e w187 ⟨rfl, hb⟩; refine ⟨_, rfl, ?_⟩; replace HO_351003 := Kd.R_b HO_351003 hb; replace HO_351004 := Kd.R_b HO_351004 hb; replace HO_351005 := Kd.R_b HO_351005 hb; replace HO_379003 := Kd.R_b HO_379003 hb; replace HO_379004 := Kd.R_b HO_379004 hb; replace HO_379005 := Kd.R_b HO_379005 hb; replace BK378 := kb_ BK378 hb; replace HB := hbs_ HB hb; (try clear hb); (try clear hb2); (try clear hk); (try clear hi)))
           go_ret
           exact ⟨by first | rfl | (simp [errW_none, errW_some] <;> rfl) | (simp [*, errW_none, errW_some] <;> rfl), hb_ HB⟩
     ·replace c75 := Bool.eq_false_iff.mpr c75
      subst c75
      have H1 : (some false) = some r := by rw [if_neg (show ¬ (false = true) by decide)] at H; exact H
      clear H
      have H := H1
      clear H1
      obtain rfl := Option.some.inj H
      (try clear BK350); (try clear GW350); (try clear GE350); (try clear NB350_322); (try clear NB322_350); (try clear NB350_363); (try clear NB363_350); (try clear NB350_378); (try clear NB378_350); (try clear BK378); (try clear GW378); (try clear GE378); (try clear NB378_322); (try clear NB322_378); (try clear NB378_350); (try clear NB350_378); (try clear NB378_363); (try clear NB363_378)
      try go_wp2
      have n0_ := Aside0.mk (Kd.R_drew HO_351003.out)
      have n1_ := Aside0.mk (Kd.R_drew HO_351004.out)
      have n2_ := Aside0.mk (Kd.R_drew HO_351005.out)
      have n3_ := Aside0.mk (Kd.R_drew HO_364003.out)
      have n4_ := Aside0.mk (Kd.R_drew HO_364004.out)
      have n5_ := Aside0.mk (Kd.R_drew HO_364005.out)
      have n6_ := Aside0.mk (Kd.R_drew HO_379003.out)
      have n7_ := Aside0.mk (Kd.R_drew HO_379004.out)
      have n8_ := Aside0.mk (Kd.R_drew HO_379005.out)
      have n9_ := Aside0.mk (blk_drew BK322.out)
      have n10_ := Aside0.mk (blk_drew BK363.out)
      have n11_ := Aside0.mk (below_drew1 HB.out)
      clear HO_351003
      clear HO_351004
      clear HO_351005
      clear HO_364003
      clear HO_364004
      clear HO_364005
      clear HO_379003
      clear HO_379004
      clear HO_379005
      clear BK322
      clear BK363
      clear HB
      have HO_351003 := n0_
      have HO_351004 := n1_
      have HO_351005 := n2_
      have HO_364003 := n3_
      have HO_364004 := n4_
      have HO_364005 := n5_
      have HO_379003 := n6_
      have HO_379004 := n7_
      have HO_379005 := n8_
      have BK322 := n9_
      have BK363 := n10_
      have HB := n11_
      clear n0_ n1_ n2_ n3_ n4_ n5_ n6_ n7_ n8_ n9_ n10_ n11_
      refine start_ (n := 5) (S := fun w' => w'.cell? ⟨gb363, 0, none⟩ = some (.int .i64 t351) ∧ w'.cell? ⟨gb363, 1, none⟩ = some (.int .i64 t352) ∧ w'.cell? ⟨gb363, 2, none⟩ = some (.int .i64 t353) ∧ w'.cell? ⟨gb363, 3, none⟩ = some (.slice Ao33 t354.length co33) ∧ w'.cell? ⟨gb363, 4, none⟩ = some (.slice Ao34 t357.length co34) ∧ w'.cell? ⟨gb363, 5, none⟩ = some (.slice Ao35 t360.length co35) ∧ w'.cell? ⟨gb322, 0, none⟩ = some (.int .i64 a0_0) ∧ w'.cell? ⟨gb322, 1, none⟩ = some (.int .i64 a0_1) ∧ w'.cell? ⟨gb322, 2, none⟩ = some (.int .i64 a0_2) ∧ w'.cell? ⟨gb322, 3, none⟩ = some (.slice A0_3 l0_3.length c0_3) ∧ w'.cell? ⟨gb322, 4, none⟩ = some (.slice A0_4 l0_4.length c0_4) ∧ w'.cell? ⟨gb322, 5, none⟩ = some (.slice A0_5 l0_5.length c0_5)) (ds := []) #[false, false, false, false, false] (by kernel_rfl) rfl rfl ⟨(blk_cell BK363.out 0).trans rfl, (blk_cell BK363.out 1).trans rfl, (blk_cell BK363.out 2).trans rfl, (blk_cell BK363.out 3).trans rfl, (blk_cell BK363.out 4).trans rfl, (blk_cell BK363.out 5).trans rfl, (blk_cell BK322.out 0).trans rfl, (blk_cell BK322.out 1).trans rfl, (blk_cell BK322.out 2).trans rfl, (blk_cell BK322.out 3).trans rfl, (blk_cell BK322.out 4).trans rfl, (blk_cell BK322.out 5).trans rfl⟩ (fun hHeld => ?_)
      generalize wc.drew = w188 at HO_351003 HO_351004 HO_351005 HO_364003 HO_364004 HO_364005 HO_379003 HO_379004 HO_379005 BK322 BK363 HB hHeld ⊢
      refine take_ (i := 0) (N := some 51) (v := ?_) (a' := ?_) #[true, false, false, false, false] rfl rfl (by kernel_rfl) (fun _ _ _ h => h) (Or.inl ⟨by rfl, ?_⟩) hHeld ?_ ?_
      rotate_left
      ·rintro w' ⟨s0, s1, s2, s3, s4, s5, s6, s7, s8, s9, s10, s11⟩
       go_simp
       with_reducible rfl
      rotate_left
      ·simp only [Act.put, List.setIfInBounds_toArray, List.set_cons_zero, List.set_cons_succ, i64_w, i32_w]
       rfl
      refine take_ (i := 1) (N := some 52) (v := ?_) (a' := ?_) #[true, true, false, false, false] rfl rfl (by kernel_rfl) (fun _ _ _ h => h) (Or.inl ⟨by rfl, ?_⟩) hHeld ?_ ?_
      rotate_left
      ·rintro w' ⟨s0, s1, s2, s3, s4, s5, s6, s7, s8, s9, s10, s11⟩
       go_simp
       with_reducible rfl
      rotate_left
      ·simp only [Act.put, List.setIfInBounds_toArray, List.set_cons_zero, List.set_cons_succ, i64_w, i32_w]
       rfl
      refine one_ (i := 2) (N := some 53) #[true, true, true, false, false] rfl rfl (by kernel_rfl) (by decide) (fun K hK => ?_)
      refine goes_ Try.func13 (by kernel_rfl) rfl #[.agg #[.int .i64 a0_0, .int .i64 a0_1, .int .i64 a0_2, .slice A0_3 l0_3.length c0_3, .slice A0_4 l0_4.length c0_4, .slice A0_5 l0_5.length c0_5]] (by rfl) rfl rfl (by (try simp only [List.map_toArray, List.map_cons, List.map_nil]); first | done | rfl | (simp only [List.length_drop, List.length_take]; rfl)) ?_
      with_reducible refine (laws_toModel.calls kj10 a0_0 a0_1 a0_2 _ _ l0_3 _ _ l0_4 _ _ l0_5 t380 t381 t382 t383 t386 t389 _ ?side1 ?side2 ?side3 ?side4 ?side5 ?side6 A73.out).mono ?_
      (case side1 => exact Kd.C_w HR0_3 HB)
      (case side2 => exact HC0_3.out)
      (case side3 => exact Kd.C_w HR0_4 HB)
      (case side4 => exact HC0_4.out)
      (case side5 => exact Kd.C_w HR0_5 HB)
      (case side6 => exact HC0_5.out)
      rintro e w189 ⟨v384, v387, v390, rfl, ho0, ho1, ho2, hb⟩
      refine ⟨_, rfl, ?_⟩
      have n0_ := Aside0.mk (Kd.R_mono (Kd.R_told (Kd.R_told (Kd.R_told (Kd.R_old (Kd.R_p HO_351003) hb) (Kd.R_base ho0)) (Kd.R_base ho1)) (Kd.R_base ho2)) (fun _ h_ => h_.1))
      have n1_ := Aside0.mk (Kd.R_mono (Kd.R_told (Kd.R_told (Kd.R_told (Kd.R_old (Kd.R_p HO_351004) hb) (Kd.R_base ho0)) (Kd.R_base ho1)) (Kd.R_base ho2)) (fun _ h_ => h_.1))
      have n2_ := Aside0.mk (Kd.R_mono (Kd.R_told (Kd.R_told (Kd.R_told (Kd.R_old (Kd.R_p HO_351005) hb) (Kd.R_base ho0)) (Kd.R_base ho1)) (Kd.R_base ho2)) (fun _ h_ => h_.1))
      have n3_ := Aside0.mk (Kd.R_mono (Kd.R_told (Kd.R_told (Kd.R_told (Kd.R_old (Kd.R_p HO_364003) hb) (Kd.R_base ho0)) (Kd.R_base ho1)) (Kd.R_base ho2)) (fun _ h_ => h_.1))
      have n4_ := Aside0.mk (Kd.R_mono (Kd.R_told (Kd.R_told (Kd.R_told (Kd.R_old (Kd.R_p HO_364004) hb) (Kd.R_base ho0)) (Kd.R_base ho1)) (Kd.R_base ho2)) (fun _ h_ => h_.1))
      have n5_ := Aside0.mk (Kd.R_mono (Kd.R_told (Kd.R_told (Kd.R_told (Kd.R_old (Kd.R_p HO_364005) hb) (Kd.R_base ho0)) (Kd.R_base ho1)) (Kd.R_base ho2)) (fun _ h_ => h_.1))
      have n6_ := Aside0.mk (Kd.R_mono (Kd.R_told (Kd.R_told (Kd.R_told (Kd.R_old (Kd.R_p HO_379003) hb) (Kd.R_base ho0)) (Kd.R_base ho1)) (Kd.R_base ho2)) (fun _ h_ => h_.1))
      have n7_ := Aside0.mk (Kd.R_mono (Kd.R_told (Kd.R_told (Kd.R_told (Kd.R_old (Kd.R_p HO_379004) hb) (Kd.R_base ho0)) (Kd.R_base ho1)) (Kd.R_base ho2)) (fun _ h_ => h_.1))
      have n8_ := Aside0.mk (Kd.R_mono (Kd.R_told (Kd.R_told (Kd.R_told (Kd.R_old (Kd.R_p HO_379005) hb) (Kd.R_base ho0)) (Kd.R_base ho1)) (Kd.R_base ho2)) (fun _ h_ => h_.1))
      have n9_ := Aside0.mk (Kd.R_lower (Kd.R_nw (Kd.R_nw (Kd.R_nw (Kd.R_nw (Kd.R_nw (Kd.R_nw (Kd.R_nw (Kd.R_nw (Kd.R_nw ho0 HO_351003) HO_351004) HO_351005) HO_364003) HO_364004) HO_364005) HO_379003) HO_379004) HO_379005) (below_size (hb_ HB)))
      have n10_ := Aside0.mk (Kd.R_lower (Kd.R_nw (Kd.R_nw (Kd.R_nw (Kd.R_nw (Kd.R_nw (Kd.R_nw (Kd.R_nw (Kd.R_nw (Kd.R_nw ho1 HO_351003) HO_351004) HO_351005) HO_364003) HO_364004) HO_364005) HO_379003) HO_379004) HO_379005) (below_size (hb_ HB)))
      have n11_ := Aside0.mk (Kd.R_lower (Kd.R_nw (Kd.R_nw (Kd.R_nw (Kd.R_nw (Kd.R_nw (Kd.R_nw (Kd.R_nw (Kd.R_nw (Kd.R_nw ho2 HO_351003) HO_351004) HO_351005) HO_364003) HO_364004) HO_364005) HO_379003) HO_379004) HO_379005) (below_size (hb_ HB)))
      have n12_ := Aside0.mk (blk_below (kp_ BK322) hb)
      have n13_ := Aside0.mk (blk_below (kp_ BK363) hb)
      have n14_ := Aside0.mk (below_step (hb_ HB) hb)
      clear HO_351003
      clear HO_351004
      clear HO_351005
      clear HO_364003
      clear HO_364004
      clear HO_364005
      clear HO_379003
      clear HO_379004
      clear HO_379005
      clear BK322
      clear BK363
      clear HB
      have HO_351003 := n0_
      have HO_351004 := n1_
      have HO_351005 := n2_
      have HO_364003 := n3_
      have HO_364004 := n4_
      have HO_364005 := n5_
      have HO_379003 := n6_
      have HO_379004 := n7_
      have HO_379005 := n8_
      have HO385 := n9_
      have HO388 := n10_
      have HO391 := n11_
      have BK322 := n12_
      have BK363 := n13_
      have HB := n14_
      clear n0_ n1_ n2_ n3_ n4_ n5_ n6_ n7_ n8_ n9_ n10_ n11_ n12_ n13_ n14_
      (try clear hb)
      (try clear hb2)
      (try clear hk)
      (try clear hi)
      (try clear ho0)
      (try clear ho1)
      (try clear ho2)
      obtain ⟨Ao190, co190, eo190⟩ := Kd.R_slice HO385.out
      (first | subst eo190 | (injection eo190 with f1_ f2_ f3_; have f4_ := f1_.symm; have f5_ := f3_.symm; clear f1_ f2_ f3_; subst f4_; subst f5_))
      obtain ⟨Ao191, co191, eo191⟩ := Kd.R_slice HO388.out
      (first | subst eo191 | (injection eo191 with f1_ f2_ f3_; have f4_ := f1_.symm; have f5_ := f3_.symm; clear f1_ f2_ f3_; subst f4_; subst f5_))
      obtain ⟨Ao192, co192, eo192⟩ := Kd.R_slice HO391.out
      (first | subst eo192 | (injection eo192 with f1_ f2_ f3_; have f4_ := f1_.symm; have f5_ := f3_.symm; clear f1_ f2_ f3_; subst f4_; subst f5_))
      refine hK.out _ _ ⟨(blk_cell BK363.out 0).trans rfl, (blk_cell BK363.out 1).trans rfl, (blk_cell BK363.out 2).trans rfl, (blk_cell BK363.out 3).trans rfl, (blk_cell BK363.out 4).trans rfl, (blk_cell BK363.out 5).trans rfl, (blk_cell BK322.out 0).trans rfl, (blk_cell BK322.out 1).trans rfl, (blk_cell BK322.out 2).trans rfl, (blk_cell BK322.out 3).trans rfl, (blk_cell BK322.out 4).trans rfl, (blk_cell BK322.out 5).trans rfl⟩ (fun hHeld => ?_)
      clear hK K
      refine norm_ (a' := ?_) ?_ ?_
      rotate_left
      ·show Act.put _ (some 53) _ = _
       simp only [Act.put, List.setIfInBounds_toArray, List.set_cons_zero, List.set_cons_succ, i64_w, i32_w]
       rfl
      refine one_ (i := 3) (N := some 54) #[true, true, true, true, false] rfl rfl (by kernel_rfl) (by decide) (fun K hK => ?_)
      refine goes_ Try.func16 (by kernel_rfl) rfl #[.agg #[.int .i64 t351, .int .i64 t352, .int .i64 t353, .slice Ao33 t354.length co33, .slice Ao34 t357.length co34, .slice Ao35 t360.length co35], .agg #[.int .i64 t380, .int .i64 t381, .int .i64 t382, .slice Ao190 t383.length co190, .slice Ao191 t386.length co191, .slice Ao192 t389.length co192]] (by rfl) rfl rfl (by (try simp only [List.map_toArray, List.map_cons, List.map_nil]); first | done | rfl | (simp only [List.length_drop, List.length_take]; rfl)) ?_
      with_reducible refine (laws_eqModel.calls kj10 t351 t352 t353 _ _ t354 _ _ t357 _ _ t360 t380 t381 t382 _ _ t383 _ _ t386 _ _ t389 false _ ?side1 ?side2 ?side3 ?side4 ?side5 ?side6 ?side7 ?side8 ?side9 ?side10 ?side11 ?side12 A74.out).mono ?_
      (case side1 => exact Kd.C_o HO_364003)
      (case side2 => exact (Kd.R_reads' HO_364003.out).2.1)
      (case side3 => exact Kd.C_o HO_364004)
      (case side4 => exact (Kd.R_reads' HO_364004.out).2.1)
      (case side5 => exact Kd.C_o HO_364005)
      (case side6 => exact (Kd.R_reads' HO_364005.out).2.1)
      (case side7 => exact Kd.C_o HO385)
      (case side8 => exact (Kd.R_reads' HO385.out).2.1)
      (case side9 => exact Kd.C_o HO388)
      (case side10 => exact (Kd.R_reads' HO388.out).2.1)
      (case side11 => exact Kd.C_o HO391)
      (case side12 => exact (Kd.R_reads' HO391.out).2.1)
      rintro e w193 ⟨rfl, hb⟩
      refine ⟨_, rfl, ?_⟩
      have n0_ := Aside0.mk (Kd.R_below (Kd.R_p HO_351003) hb)
      have n1_ := Aside0.mk (Kd.R_below (Kd.R_p HO_351004) hb)
      have n2_ := Aside0.mk (Kd.R_below (Kd.R_p HO_351005) hb)
      have n3_ := Aside0.mk (Kd.R_below (Kd.R_p HO_364003) hb)
      have n4_ := Aside0.mk (Kd.R_below (Kd.R_p HO_364004) hb)
      have n5_ := Aside0.mk (Kd.R_below (Kd.R_p HO_364005) hb)
      have n6_ := Aside0.mk (Kd.R_below (Kd.R_p HO_379003) hb)
      have n7_ := Aside0.mk (Kd.R_below (Kd.R_p HO_379004) hb)
      have n8_ := Aside0.mk (Kd.R_below (Kd.R_p HO_379005) hb)
      have n9_ := Aside0.mk (Kd.R_below (Kd.R_p HO385) hb)
      have n10_ := Aside0.mk (Kd.R_below (Kd.R_p HO388) hb)
      have n11_ := Aside0.mk (Kd.R_below (Kd.R_p HO391) hb)
      have n12_ := Aside0.mk (blk_below (kp_ BK322) hb)
      have n13_ := Aside0.mk (blk_below (kp_ BK363) hb)
      have n14_ := Aside0.mk (below_step (hb_ HB) hb)
      clear HO_351003
      clear HO_351004
      clear HO_351005
      clear HO_364003
      clear HO_364004
      clear HO_364005
      clear HO_379003
      clear HO_379004
      clear HO_379005
      clear HO385
      clear HO388
      clear HO391
      clear BK322
      clear BK363
      clear HB
      have HO_351003 := n0_
      have HO_351004 := n1_
      have HO_351005 := n2_
      have HO_364003 := n3_
      have HO_364004 := n4_
      have HO_364005 := n5_
      have HO_379003 := n6_
      have HO_379004 := n7_
      have HO_379005 := n8_
      have HO385 := n9_
      have HO388 := n10_
      have HO391 := n11_
      have BK322 := n12_
      have BK363 := n13_
      have HB := n14_
      clear n0_ n1_ n2_ n3_ n4_ n5_ n6_ n7_ n8_ n9_ n10_ n11_ n12_ n13_ n14_
      (try clear hb)
      (try clear hb2)
      (try clear hk)
      (try clear hi)
      refine hK.out _ _ ⟨(blk_cell BK363.out 0).trans rfl, (blk_cell BK363.out 1).trans rfl, (blk_cell BK363.out 2).trans rfl, (blk_cell BK363.out 3).trans rfl, (blk_cell BK363.out 4).trans rfl, (blk_cell BK363.out 5).trans rfl, (blk_cell BK322.out 0).trans rfl, (blk_cell BK322.out 1).trans rfl, (blk_cell BK322.out 2).trans rfl, (blk_cell BK322.out 3).trans rfl, (blk_cell BK322.out 4).trans rfl, (blk_cell BK322.out 5).trans rfl⟩ (fun hHeld => ?_)
      clear hK K
      refine norm_ (a' := ?_) ?_ ?_
      rotate_left
      ·show Act.put _ (some 54) _ = _
       simp only [Act.put, List.setIfInBounds_toArray, List.set_cons_zero, List.set_cons_succ, i64_w, i32_w]
       rfl
      refine pure_ (i := 4) (N := some 55) (v := ?_) (a' := ?_) #[true, true, true, true, true] rfl rfl (by kernel_rfl) (fun _ _ _ h => h) (Or.inl ⟨by rfl, ?_⟩) ?_ ?_
      rotate_left
      ·intro w'
       go_simp
       with_reducible rfl
      rotate_left
      ·simp only [Act.put, List.setIfInBounds_toArray, List.set_cons_zero, List.set_cons_succ, i64_w, i32_w]
       rfl
      refine done_ (by kernel_rfl) ?_
      try go_wp2
      go_ret
      exact ⟨by first | rfl | (simp [errW_none, errW_some] <;> rfl) | (simp [*, errW_none, errW_some] <;> rfl), hb_ HB⟩

end Go.Proofs.Ytceajigggcihnaa.PFnExactCoarseModel
