-- Laid for this claim by wip/tools/print2.sh, a changed copy of the kit's print (wip/tools/patch_print.py): not by print.sh.
import Derived.Test.YtdfjlelbkkaloaaPFnExactEmptyBlocksx0
import Derived.Test.YtdfjlelbkkaloaaPFnExactEmptyBlocksx1
import Derived.Test.YtdfjlelbkkaloaaPFnExactEmptyBlocksx2
import Derived.Test.YtdfjlelbkkaloaaPFnExactEmptyBlocksx3
import Derived.Test.YtdfjlelbkkaloaaPFnExactEmptyBlocksx5
namespace Go.Proofs.Ytdfjlelbkkaloaa.PFnExactEmptyBlocks
open Go.RowKit Go.Proofs.YtdfjlelbkkaloaaW.PrintWords Go.Proofs.YtdfjlelbkkaloaaW.PrintLast Go.Proofs.YtdfjlelbkkaloaaW.PrintMore
attribute [local go_sem] max2_int min2_int max_two min_two max_three min_three max_four min_four   -- for this text's walks alone
set_option linter.unusedVariables false
set_option linter.unusedSimpArgs false

/-! ### laws_FnExactEmptyBlocks: function 4 -/
mutual
def laws_FnExactEmptyBlocks.j0 : Nat → List Int → Bool → List Int → Bool → Bool → Int → Int → Int → List Int → List Int → List Int → Int → Int → Int → List Int → List Int → List Int → Int → Int → Int → List Int → List Int → List Int → Int → Int → Int → List Int → List Int → List Int → Option (Bool)
 | 0, _, _, _, _, _, _, _, _, _, _, _, _, _, _, _, _, _, _, _, _, _, _, _, _, _, _, _, _, _ => none
 | k + 1, x1, x7, x9, x11, x51, x259000, x259001, x259002, x259003, x259004, x259005, x289000, x289001, x289002, x289003, x289004, x289005, x302000, x302001, x302002, x302003, x302004, x302005, x319000, x319001, x319002, x319003, x319004, x319005 => if x51 = true then (some false) else ((laws_toModel.f k x259000 x259001 x259002 x259003 x259004 x259005).bind fun bt320 => ((laws_eqModel.f k x302000 x302001 x302002 x302003 x302004 x302005 bt320.1 bt320.2.1 bt320.2.2.1 bt320.2.2.2.1 bt320.2.2.2.2.1 bt320.2.2.2.2.2).bind fun t332 => (if t332 = true then ((laws_toIntS.f k x1).bind fun t333 => ((laws_eqIntS.f k x9 t333).bind fun t336 => (if t336 = true then ((laws_markModel.f k x302000 x302001 x302002 x302003 x302004 x302005 1).bind fun bt337 => ((laws_markIntS.f k x9 bt337.1).bind fun bt341 => (if bt341.1 < 0 then (laws_FnExactEmptyBlocks.j1 k x1 x7 true x259000 x259001 x259002 x259003 x259004 x259005 x289000 x289001 x289002 x289003 x289004 x289005 x319000 x319001 x319002 x319003 x319004 x319005) else ((laws_eqModel.f k x319000 x319001 x319002 x319003 x319004 x319005 x289000 x289001 x289002 x289003 x289004 x289005).bind fun t343 => (if t343 = true then (laws_FnExactEmptyBlocks.j1 k x1 x7 (x11 != x7) x259000 x259001 x259002 x259003 x259004 x259005 x289000 x289001 x289002 x289003 x289004 x289005 x319000 x319001 x319002 x319003 x319004 x319005) else (laws_FnExactEmptyBlocks.j1 k x1 x7 true x259000 x259001 x259002 x259003 x259004 x259005 x289000 x289001 x289002 x289003 x289004 x289005 x319000 x319001 x319002 x319003 x319004 x319005)))))) else (some false)))) else (some false))))
def laws_FnExactEmptyBlocks.j1 : Nat → List Int → Bool → Bool → Int → Int → Int → List Int → List Int → List Int → Int → Int → Int → List Int → List Int → List Int → Int → Int → Int → List Int → List Int → List Int → Option (Bool)
 | 0, _, _, _, _, _, _, _, _, _, _, _, _, _, _, _, _, _, _, _, _, _ => none
 | k + 1, x1, x7, x80, x259000, x259001, x259002, x259003, x259004, x259005, x289000, x289001, x289002, x289003, x289004, x289005, x319000, x319001, x319002, x319003, x319004, x319005 => if x80 = true then (some false) else ((laws_markModel.f k x319000 x319001 x319002 x319003 x319004 x319005 1).bind fun bt344 => ((laws_heldModel.f k x319000 x319001 x319002 bt344.2.1 bt344.2.2.1 bt344.2.2.2 1).bind fun t348 => (if t348 < 0 then (some false) else (if t348 = bt344.1 then ((laws_toModel.f k x259000 x259001 x259002 x259003 x259004 x259005).bind fun bt349 => ((laws_toIntS.f k x1).bind fun t361 => ((impl_EmptyBlocks.f k bt349.1 bt349.2.1 bt349.2.2.1 bt349.2.2.2.1 bt349.2.2.2.2.1 bt349.2.2.2.2.2 t361).bind fun bt364 => ((laws_eqModel.f k bt364.1 bt364.2.1 bt364.2.2.1 bt364.2.2.2.1 bt364.2.2.2.2.1 bt364.2.2.2.2.2.1 x289000 x289001 x289002 x289003 x289004 x289005).bind fun t378 => (if t378 = true then (laws_FnExactEmptyBlocks.j2 k bt344.1 (bt364.2.2.2.2.2.2 != x7) x319000 x319001 x319002 bt344.2.1 bt344.2.2.1 bt344.2.2.2) else (laws_FnExactEmptyBlocks.j2 k bt344.1 true x319000 x319001 x319002 bt344.2.1 bt344.2.2.1 bt344.2.2.2)))))) else (some false)))))
def laws_FnExactEmptyBlocks.j2 : Nat → Int → Bool → Int → Int → Int → List Int → List Int → List Int → Option (Bool)
 | 0, _, _, _, _, _, _, _, _ => none
 | k + 1, x13, x108, x319000, x319001, x319002, x319003, x319004, x319005 => if x108 = true then (some false) else ((laws_heldModel.f k x319000 x319001 x319002 x319003 x319004 x319005 1).bind fun t379 => (if t379 < 0 then (some false) else (if t379 = x13 then (some true) else (some false))))
end
def laws_FnExactEmptyBlocks.f (k : Nat) (a0_0 : Int) (a0_1 : Int) (a0_2 : Int) (l0_3 : List Int) (l0_4 : List Int) (l0_5 : List Int) (l1 : List Int) : Option (Bool) := if (l1.length : Int) > 1048576 then (some true) else ((laws_szModel.f a0_0 a0_1 a0_2 l0_3 l0_4 l0_5 1048576).bind fun t259 => (if t259 < 0 then (some true) else ((laws_toModel.f k a0_0 a0_1 a0_2 l0_3 l0_4 l0_5).bind fun bt260 => ((laws_toIntS.f k l1).bind fun t272 => ((spec_EmptyBlocks.f k bt260.1 bt260.2.1 bt260.2.2.1 bt260.2.2.2.1 bt260.2.2.2.2.1 bt260.2.2.2.2.2 t272).bind fun bt275 => ((laws_toModel.f k a0_0 a0_1 a0_2 l0_3 l0_4 l0_5).bind fun bt289 => ((laws_toIntS.f k l1).bind fun t302 => ((impl_EmptyBlocks.f k bt289.1 bt289.2.1 bt289.2.2.1 bt289.2.2.2.1 bt289.2.2.2.2.1 bt289.2.2.2.2.2 t302).bind fun bt305 => ((laws_eqModel.f k bt305.1 bt305.2.1 bt305.2.2.1 bt305.2.2.2.1 bt305.2.2.2.2.1 bt305.2.2.2.2.2.1 bt275.1 bt275.2.1 bt275.2.2.1 bt275.2.2.2.1 bt275.2.2.2.2.1 bt275.2.2.2.2.2.1).bind fun t319 => (if t319 = true then (laws_FnExactEmptyBlocks.j0 k l1 bt275.2.2.2.2.2.2 t302 bt305.2.2.2.2.2.2 (bt305.2.2.2.2.2.2 != bt275.2.2.2.2.2.2) a0_0 a0_1 a0_2 l0_3 l0_4 l0_5 bt275.1 bt275.2.1 bt275.2.2.1 bt275.2.2.2.1 bt275.2.2.2.2.1 bt275.2.2.2.2.2.1 bt289.1 bt289.2.1 bt289.2.2.1 bt289.2.2.2.1 bt289.2.2.2.2.1 bt289.2.2.2.2.2 bt305.1 bt305.2.1 bt305.2.2.1 bt305.2.2.2.1 bt305.2.2.2.2.1 bt305.2.2.2.2.2.1) else (laws_FnExactEmptyBlocks.j0 k l1 bt275.2.2.2.2.2.2 t302 bt305.2.2.2.2.2.2 true a0_0 a0_1 a0_2 l0_3 l0_4 l0_5 bt275.1 bt275.2.1 bt275.2.2.1 bt275.2.2.2.1 bt275.2.2.2.2.1 bt275.2.2.2.2.2.1 bt289.1 bt289.2.1 bt289.2.2.1 bt289.2.2.2.1 bt289.2.2.2.2.1 bt289.2.2.2.2.2 bt305.1 bt305.2.1 bt305.2.2.1 bt305.2.2.2.1 bt305.2.2.2.2.1 bt305.2.2.2.2.2.1)))))))))))
theorem laws_FnExactEmptyBlocks.mono_l : ∀ k, (∀ y0 y1 y2 y3 y4 y5 y6 y7 y8 y9 y10 y11 y12 y13 y14 y15 y16 y17 y18 y19 y20 y21 y22 y23 y24 y25 y26 y27 y28, LeO (laws_FnExactEmptyBlocks.j0 k y0 y1 y2 y3 y4 y5 y6 y7 y8 y9 y10 y11 y12 y13 y14 y15 y16 y17 y18 y19 y20 y21 y22 y23 y24 y25 y26 y27 y28) (laws_FnExactEmptyBlocks.j0 (k + 1) y0 y1 y2 y3 y4 y5 y6 y7 y8 y9 y10 y11 y12 y13 y14 y15 y16 y17 y18 y19 y20 y21 y22 y23 y24 y25 y26 y27 y28)) ∧ (∀ y0 y1 y2 y3 y4 y5 y6 y7 y8 y9 y10 y11 y12 y13 y14 y15 y16 y17 y18 y19 y20, LeO (laws_FnExactEmptyBlocks.j1 k y0 y1 y2 y3 y4 y5 y6 y7 y8 y9 y10 y11 y12 y13 y14 y15 y16 y17 y18 y19 y20) (laws_FnExactEmptyBlocks.j1 (k + 1) y0 y1 y2 y3 y4 y5 y6 y7 y8 y9 y10 y11 y12 y13 y14 y15 y16 y17 y18 y19 y20)) ∧ (∀ y0 y1 y2 y3 y4 y5 y6 y7, LeO (laws_FnExactEmptyBlocks.j2 k y0 y1 y2 y3 y4 y5 y6 y7) (laws_FnExactEmptyBlocks.j2 (k + 1) y0 y1 y2 y3 y4 y5 y6 y7))
 | 0 => ⟨fun _ _ _ _ _ _ _ _ _ _ _ _ _ _ _ _ _ _ _ _ _ _ _ _ _ _ _ _ _ r h => by simp [laws_FnExactEmptyBlocks.j0] at h, fun _ _ _ _ _ _ _ _ _ _ _ _ _ _ _ _ _ _ _ _ _ r h => by simp [laws_FnExactEmptyBlocks.j1] at h, fun _ _ _ _ _ _ _ _ r h => by simp [laws_FnExactEmptyBlocks.j2] at h⟩
 | k + 1 => by
  obtain ⟨ih0, ih1, ih2⟩ := laws_FnExactEmptyBlocks.mono_l k
  refine ⟨?_, ?_, ?_⟩
  ·intro y0 y1 y2 y3 y4 y5 y6 y7 y8 y9 y10 y11 y12 y13 y14 y15 y16 y17 y18 y19 y20 y21 y22 y23 y24 y25 y26 y27 y28
   unfold laws_FnExactEmptyBlocks.j0
   repeat' first
   | (with_reducible exact ih0 _ _ _ _ _ _ _ _ _ _ _ _ _ _ _ _ _ _ _ _ _ _ _ _ _ _ _ _ _)
   | (with_reducible exact ih1 _ _ _ _ _ _ _ _ _ _ _ _ _ _ _ _ _ _ _ _ _)
   | (with_reducible exact ih2 _ _ _ _ _ _ _ _)
   | (with_reducible exact impl_EmptyBlocks.mono _ _ _ _ _ _ _ _)
   | (with_reducible exact laws_eqIntS.mono _ _ _)
   | (with_reducible exact laws_eqModel.mono _ _ _ _ _ _ _ _ _ _ _ _ _)
   | (with_reducible exact laws_heldModel.mono _ _ _ _ _ _ _ _)
   | (with_reducible exact laws_markIntS.mono _ _ _)
   | (with_reducible exact laws_markModel.mono _ _ _ _ _ _ _ _)
   | (with_reducible exact laws_toIntS.mono _ _)
   | (with_reducible exact laws_toModel.mono _ _ _ _ _ _ _)
   | (with_reducible exact spec_EmptyBlocks.mono _ _ _ _ _ _ _ _)
   | (with_reducible exact LeO.refl _)
   | (with_reducible exact LeO.none _)
   | (with_reducible refine LeO.ite ?_ ?_)
   | (with_reducible refine LeO.bind ?_ (fun _ => ?_))
   | exact ih0 _ _ _ _ _ _ _ _ _ _ _ _ _ _ _ _ _ _ _ _ _ _ _ _ _ _ _ _ _
   | exact ih1 _ _ _ _ _ _ _ _ _ _ _ _ _ _ _ _ _ _ _ _ _
   | exact ih2 _ _ _ _ _ _ _ _
   | exact impl_EmptyBlocks.mono _ _ _ _ _ _ _ _
   | exact laws_eqIntS.mono _ _ _
   | exact laws_eqModel.mono _ _ _ _ _ _ _ _ _ _ _ _ _
   | exact laws_heldModel.mono _ _ _ _ _ _ _ _
   | exact laws_markIntS.mono _ _ _
   | exact laws_markModel.mono _ _ _ _ _ _ _ _
   | exact laws_toIntS.mono _ _
   | exact laws_toModel.mono _ _ _ _ _ _ _
   | exact spec_EmptyBlocks.mono _ _ _ _ _ _ _ _
   | exact LeO.none _
   | refine LeO.ite ?_ ?_
   | refine LeO.bind ?_ (fun _ => ?_)
  ·intro y0 y1 y2 y3 y4 y5 y6 y7 y8 y9 y10 y11 y12 y13 y14 y15 y16 y17 y18 y19 y20
   unfold laws_FnExactEmptyBlocks.j1
   repeat' first
   | (with_reducible exact ih0 _ _ _ _ _ _ _ _ _ _ _ _ _ _ _ _ _ _ _ _ _ _ _ _ _ _ _ _ _)
   | (with_reducible exact ih1 _ _ _ _ _ _ _ _ _ _ _ _ _ _ _ _ _ _ _ _ _)
   | (with_reducible exact ih2 _ _ _ _ _ _ _ _)
   | (with_reducible exact impl_EmptyBlocks.mono _ _ _ _ _ _ _ _)
   | (with_reducible exact laws_eqIntS.mono _ _ _)
   | (with_reducible exact laws_eqModel.mono _ _ _ _ _ _ _ _ _ _ _ _ _)
   | (with_reducible exact laws_heldModel.mono _ _ _ _ _ _ _ _)
   | (with_reducible exact laws_markIntS.mono _ _ _)
   | (with_reducible exact laws_markModel.mono _ _ _ _ _ _ _ _)
   | (with_reducible exact laws_toIntS.mono _ _)
   | (with_reducible exact laws_toModel.mono _ _ _ _ _ _ _)
   | (with_reducible exact spec_EmptyBlocks.mono _ _ _ _ _ _ _ _)
   | (with_reducible exact LeO.refl _)
   | (with_reducible exact LeO.none _)
   | (with_reducible refine LeO.ite ?_ ?_)
   | (with_reducible refine LeO.bind ?_ (fun _ => ?_))
   | exact ih0 _ _ _ _ _ _ _ _ _ _ _ _ _ _ _ _ _ _ _ _ _ _ _ _ _ _ _ _ _
   | exact ih1 _ _ _ _ _ _ _ _ _ _ _ _ _ _ _ _ _ _ _ _ _
   | exact ih2 _ _ _ _ _ _ _ _
   | exact impl_EmptyBlocks.mono _ _ _ _ _ _ _ _
   | exact laws_eqIntS.mono _ _ _
   | exact laws_eqModel.mono _ _ _ _ _ _ _ _ _ _ _ _ _
   | exact laws_heldModel.mono _ _ _ _ _ _ _ _
   | exact laws_markIntS.mono _ _ _
   | exact laws_markModel.mono _ _ _ _ _ _ _ _
   | exact laws_toIntS.mono _ _
   | exact laws_toModel.mono _ _ _ _ _ _ _
   | exact spec_EmptyBlocks.mono _ _ _ _ _ _ _ _
   | exact LeO.none _
   | refine LeO.ite ?_ ?_
   | refine LeO.bind ?_ (fun _ => ?_)
  ·intro y0 y1 y2 y3 y4 y5 y6 y7
   unfold laws_FnExactEmptyBlocks.j2
   repeat' first
   | (with_reducible exact ih0 _ _ _ _ _ _ _ _ _ _ _ _ _ _ _ _ _ _ _ _ _ _ _ _ _ _ _ _ _)
   | (with_reducible exact ih1 _ _ _ _ _ _ _ _ _ _ _ _ _ _ _ _ _ _ _ _ _)
   | (with_reducible exact ih2 _ _ _ _ _ _ _ _)
   | (with_reducible exact impl_EmptyBlocks.mono _ _ _ _ _ _ _ _)
   | (with_reducible exact laws_eqIntS.mono _ _ _)
   | (with_reducible exact laws_eqModel.mono _ _ _ _ _ _ _ _ _ _ _ _ _)
   | (with_reducible exact laws_heldModel.mono _ _ _ _ _ _ _ _)
   | (with_reducible exact laws_markIntS.mono _ _ _)
   | (with_reducible exact laws_markModel.mono _ _ _ _ _ _ _ _)
   | (with_reducible exact laws_toIntS.mono _ _)
   | (with_reducible exact laws_toModel.mono _ _ _ _ _ _ _)
   | (with_reducible exact spec_EmptyBlocks.mono _ _ _ _ _ _ _ _)
   | (with_reducible exact LeO.refl _)
   | (with_reducible exact LeO.none _)
   | (with_reducible refine LeO.ite ?_ ?_)
   | (with_reducible refine LeO.bind ?_ (fun _ => ?_))
   | exact ih0 _ _ _ _ _ _ _ _ _ _ _ _ _ _ _ _ _ _ _ _ _ _ _ _ _ _ _ _ _
   | exact ih1 _ _ _ _ _ _ _ _ _ _ _ _ _ _ _ _ _ _ _ _ _
   | exact ih2 _ _ _ _ _ _ _ _
   | exact impl_EmptyBlocks.mono _ _ _ _ _ _ _ _
   | exact laws_eqIntS.mono _ _ _
   | exact laws_eqModel.mono _ _ _ _ _ _ _ _ _ _ _ _ _
   | exact laws_heldModel.mono _ _ _ _ _ _ _ _
   | exact laws_markIntS.mono _ _ _
   | exact laws_markModel.mono _ _ _ _ _ _ _ _
   | exact laws_toIntS.mono _ _
   | exact laws_toModel.mono _ _ _ _ _ _ _
   | exact spec_EmptyBlocks.mono _ _ _ _ _ _ _ _
   | exact LeO.none _
   | refine LeO.ite ?_ ?_
   | refine LeO.bind ?_ (fun _ => ?_)
theorem laws_FnExactEmptyBlocks.mono : ∀ a0 a1 a2 a3 a4 a5 a6 k, LeO (laws_FnExactEmptyBlocks.f k a0 a1 a2 a3 a4 a5 a6) (laws_FnExactEmptyBlocks.f (k + 1) a0 a1 a2 a3 a4 a5 a6) := by
 intro a0 a1 a2 a3 a4 a5 a6 k
 obtain ⟨ih0, ih1, ih2⟩ := laws_FnExactEmptyBlocks.mono_l k
 unfold laws_FnExactEmptyBlocks.f
 repeat' first
   | (with_reducible exact ih0 _ _ _ _ _ _ _ _ _ _ _ _ _ _ _ _ _ _ _ _ _ _ _ _ _ _ _ _ _)
   | (with_reducible exact ih1 _ _ _ _ _ _ _ _ _ _ _ _ _ _ _ _ _ _ _ _ _)
   | (with_reducible exact ih2 _ _ _ _ _ _ _ _)
   | (with_reducible exact impl_EmptyBlocks.mono _ _ _ _ _ _ _ _)
   | (with_reducible exact laws_eqIntS.mono _ _ _)
   | (with_reducible exact laws_eqModel.mono _ _ _ _ _ _ _ _ _ _ _ _ _)
   | (with_reducible exact laws_heldModel.mono _ _ _ _ _ _ _ _)
   | (with_reducible exact laws_markIntS.mono _ _ _)
   | (with_reducible exact laws_markModel.mono _ _ _ _ _ _ _ _)
   | (with_reducible exact laws_toIntS.mono _ _)
   | (with_reducible exact laws_toModel.mono _ _ _ _ _ _ _)
   | (with_reducible exact spec_EmptyBlocks.mono _ _ _ _ _ _ _ _)
   | (with_reducible exact LeO.refl _)
   | (with_reducible exact LeO.none _)
   | (with_reducible refine LeO.ite ?_ ?_)
   | (with_reducible refine LeO.bind ?_ (fun _ => ?_))
   | exact ih0 _ _ _ _ _ _ _ _ _ _ _ _ _ _ _ _ _ _ _ _ _ _ _ _ _ _ _ _ _
   | exact ih1 _ _ _ _ _ _ _ _ _ _ _ _ _ _ _ _ _ _ _ _ _
   | exact ih2 _ _ _ _ _ _ _ _
   | exact impl_EmptyBlocks.mono _ _ _ _ _ _ _ _
   | exact laws_eqIntS.mono _ _ _
   | exact laws_eqModel.mono _ _ _ _ _ _ _ _ _ _ _ _ _
   | exact laws_heldModel.mono _ _ _ _ _ _ _ _
   | exact laws_markIntS.mono _ _ _
   | exact laws_markModel.mono _ _ _ _ _ _ _ _
   | exact laws_toIntS.mono _ _
   | exact laws_toModel.mono _ _ _ _ _ _ _
   | exact spec_EmptyBlocks.mono _ _ _ _ _ _ _ _
   | exact LeO.none _
   | refine LeO.ite ?_ ?_
   | refine LeO.bind ?_ (fun _ => ?_)
set_option maxHeartbeats 8000000 in
set_option maxRecDepth 100000 in
theorem laws_FnExactEmptyBlocks.calls (k : Nat) (a0_0 : Int) (a0_1 : Int) (a0_2 : Int) (A0_3 : Option Addr) (c0_3 : Nat) (l0_3 : List Int) (A0_4 : Option Addr) (c0_4 : Nat) (l0_4 : List Int) (A0_5 : Option Addr) (c0_5 : Nat) (l0_5 : List Int) (A1 : Option Addr) (c1 : Nat) (l1 : List Int) (r : Bool) (w : World) (hr0_3 : Kd.C (Kd.int .i64) w A0_3 l0_3.length l0_3) (hc0_3 : l0_3.length ≤ c0_3) (hr0_4 : Kd.C (Kd.int .i64) w A0_4 l0_4.length l0_4) (hc0_4 : l0_4.length ≤ c0_4) (hr0_5 : Kd.C (Kd.int .i64) w A0_5 l0_5.length l0_5) (hc0_5 : l0_5.length ≤ c0_5) (hr1 : Kd.C (Kd.int .i64) w A1 l1.length l1) (hc1 : l1.length ≤ c1) (h : laws_FnExactEmptyBlocks.f k a0_0 a0_1 a0_2 l0_3 l0_4 l0_5 l1 = some r) :
  Calls Try.prog 4 #[.agg #[.int .i64 a0_0, .int .i64 a0_1, .int .i64 a0_2, .slice A0_3 l0_3.length c0_3, .slice A0_4 l0_4.length c0_4, .slice A0_5 l0_5.length c0_5], .slice A1 l1.length c1] w fun e w' => e = .returned (.bool r) ∧ Below w.heap.size w w' := by
 have hu26 := Try.underlying26
 have hu30 := Try.underlying30
 have HR0_3 := Aside0.mk hr0_3
 have HC0_3 := Aside0.mk hc0_3
 clear hr0_3 hc0_3
 have HR0_4 := Aside0.mk hr0_4
 have HC0_4 := Aside0.mk hc0_4
 clear hr0_4 hc0_4
 have HR0_5 := Aside0.mk hr0_5
 have HC0_5 := Aside0.mk hc0_5
 clear hr0_5 hc0_5
 have HR1 := Aside0.mk hr1
 have HC1 := Aside0.mk hc1
 clear hr1 hc1
 have HB := Aside0.mk (Below.refl w.heap.size w)
 have H : (if (l1.length : Int) > 1048576 then (some true) else ((laws_szModel.f a0_0 a0_1 a0_2 l0_3 l0_4 l0_5 1048576).bind fun t259 => (if t259 < 0 then (some true) else ((laws_toModel.f k a0_0 a0_1 a0_2 l0_3 l0_4 l0_5).bind fun bt260 => ((laws_toIntS.f k l1).bind fun t272 => ((spec_EmptyBlocks.f k bt260.1 bt260.2.1 bt260.2.2.1 bt260.2.2.2.1 bt260.2.2.2.2.1 bt260.2.2.2.2.2 t272).bind fun bt275 => ((laws_toModel.f k a0_0 a0_1 a0_2 l0_3 l0_4 l0_5).bind fun bt289 => ((laws_toIntS.f k l1).bind fun t302 => ((impl_EmptyBlocks.f k bt289.1 bt289.2.1 bt289.2.2.1 bt289.2.2.2.1 bt289.2.2.2.2.1 bt289.2.2.2.2.2 t302).bind fun bt305 => ((laws_eqModel.f k bt305.1 bt305.2.1 bt305.2.2.1 bt305.2.2.2.1 bt305.2.2.2.2.1 bt305.2.2.2.2.2.1 bt275.1 bt275.2.1 bt275.2.2.1 bt275.2.2.2.1 bt275.2.2.2.2.1 bt275.2.2.2.2.2.1).bind fun t319 => (if t319 = true then (laws_FnExactEmptyBlocks.j0 k l1 bt275.2.2.2.2.2.2 t302 bt305.2.2.2.2.2.2 (bt305.2.2.2.2.2.2 != bt275.2.2.2.2.2.2) a0_0 a0_1 a0_2 l0_3 l0_4 l0_5 bt275.1 bt275.2.1 bt275.2.2.1 bt275.2.2.2.1 bt275.2.2.2.2.1 bt275.2.2.2.2.2.1 bt289.1 bt289.2.1 bt289.2.2.1 bt289.2.2.2.1 bt289.2.2.2.2.1 bt289.2.2.2.2.2 bt305.1 bt305.2.1 bt305.2.2.1 bt305.2.2.2.1 bt305.2.2.2.2.1 bt305.2.2.2.2.2.1) else (laws_FnExactEmptyBlocks.j0 k l1 bt275.2.2.2.2.2.2 t302 bt305.2.2.2.2.2.2 true a0_0 a0_1 a0_2 l0_3 l0_4 l0_5 bt275.1 bt275.2.1 bt275.2.2.1 bt275.2.2.2.1 bt275.2.2.2.2.1 bt275.2.2.2.2.2.1 bt289.1 bt289.2.1 bt289.2.2.1 bt289.2.2.2.1 bt289.2.2.2.2.1 bt289.2.2.2.2.2 bt305.1 bt305.2.1 bt305.2.2.1 bt305.2.2.2.1 bt305.2.2.2.2.1 bt305.2.2.2.2.2.1)))))))))))) = some r := h
 clear h
 by_cases c3 : (l1.length : Int) > 1048576
 ·rw [if_pos c3] at H
  have c3b0 : decide (1048576 < (l1.length : Int)) = true := decide_eq_true c3
  have c3b1 : decide (1048576 < l1.length) = true := decide_eq_true (by omega)
  clear c3
  obtain rfl := Option.some.inj H
  go_enter Try.func4, Try.ntmps4
  go_wp2_with (first | ((with_reducible refine gate_dst (N := 2) rfl ?_); refine box_event ?hg (N := 2) ?hd (cs := #[.int .i64 a0_0, .int .i64 a0_1, .int .i64 a0_2, .slice A0_3 l0_3.length c0_3, .slice A0_4 l0_4.length c0_4, .slice A0_5 l0_5.length c0_5]) (t := 26) ?hr ?_; (case hd => rfl); (case hg => rfl); (case hr => first | (go_simp; done) | (go_simp; rfl)); intro gb258 hg w4 hbox hb; have BK258 := Aside0.mk (hbox); have GW258 := gs_ hg HB; have GE258 := gs_ hg HB; replace HB := hbs_ HB hb; clear hb hbox hg))
  go_ret
  exact ⟨by first | rfl | (simp [errW_none, errW_some] <;> rfl) | (simp [*, errW_none, errW_some] <;> rfl), hb_ HB⟩
 ·rw [if_neg c3] at H
  have c3b0 : decide (1048576 < (l1.length : Int)) = false := decide_eq_false c3
  have c3b1 : decide (1048576 < l1.length) = false := decide_eq_false (by omega)
  clear c3
  replace H := Option.bind_eq_some_iff.mp H
  obtain ⟨t259, A50, H⟩ := H
  replace H : (if t259 < 0 then (some true) else ((laws_toModel.f k a0_0 a0_1 a0_2 l0_3 l0_4 l0_5).bind fun bt260 => ((laws_toIntS.f k l1).bind fun t272 => ((spec_EmptyBlocks.f k bt260.1 bt260.2.1 bt260.2.2.1 bt260.2.2.2.1 bt260.2.2.2.2.1 bt260.2.2.2.2.2 t272).bind fun bt275 => ((laws_toModel.f k a0_0 a0_1 a0_2 l0_3 l0_4 l0_5).bind fun bt289 => ((laws_toIntS.f k l1).bind fun t302 => ((impl_EmptyBlocks.f k bt289.1 bt289.2.1 bt289.2.2.1 bt289.2.2.2.1 bt289.2.2.2.2.1 bt289.2.2.2.2.2 t302).bind fun bt305 => ((laws_eqModel.f k bt305.1 bt305.2.1 bt305.2.2.1 bt305.2.2.2.1 bt305.2.2.2.2.1 bt305.2.2.2.2.2.1 bt275.1 bt275.2.1 bt275.2.2.1 bt275.2.2.2.1 bt275.2.2.2.2.1 bt275.2.2.2.2.2.1).bind fun t319 => (if t319 = true then (laws_FnExactEmptyBlocks.j0 k l1 bt275.2.2.2.2.2.2 t302 bt305.2.2.2.2.2.2 (bt305.2.2.2.2.2.2 != bt275.2.2.2.2.2.2) a0_0 a0_1 a0_2 l0_3 l0_4 l0_5 bt275.1 bt275.2.1 bt275.2.2.1 bt275.2.2.2.1 bt275.2.2.2.2.1 bt275.2.2.2.2.2.1 bt289.1 bt289.2.1 bt289.2.2.1 bt289.2.2.2.1 bt289.2.2.2.2.1 bt289.2.2.2.2.2 bt305.1 bt305.2.1 bt305.2.2.1 bt305.2.2.2.1 bt305.2.2.2.2.1 bt305.2.2.2.2.2.1) else (laws_FnExactEmptyBlocks.j0 k l1 bt275.2.2.2.2.2.2 t302 bt305.2.2.2.2.2.2 true a0_0 a0_1 a0_2 l0_3 l0_4 l0_5 bt275.1 bt275.2.1 bt275.2.2.1 bt275.2.2.2.1 bt275.2.2.2.2.1 bt275.2.2.2.2.2.1 bt289.1 bt289.2.1 bt289.2.2.1 bt289.2.2.2.1 bt289.2.2.2.2.1 bt289.2.2.2.2.2 bt305.1 bt305.2.1 bt305.2.2.1 bt305.2.2.2.1 bt305.2.2.2.2.1 bt305.2.2.2.2.2.1)))))))))) = some r := H
  have A5 := Aside0.mk A50
  clear A50
  by_cases c6 : t259 < 0
  ·rw [if_pos c6] at H
   have c6b0 : decide (t259 < 0) = true := decide_eq_true c6
   clear c6
   obtain rfl := Option.some.inj H
   go_enter Try.func4, Try.ntmps4
   go_wp2_with (first | ((with_reducible refine gate_dst (N := 2) rfl ?_); refine box_event ?hg (N := 2) ?hd (cs := #[.int .i64 a0_0, .int .i64 a0_1, .int .i64 a0_2, .slice A0_3 l0_3.length c0_3, .slice A0_4 l0_4.length c0_4, .slice A0_5 l0_5.length c0_5]) (t := 26) ?hr ?_; (case hd => rfl); (case hg => rfl); (case hr => first | (go_simp; done) | (go_simp; rfl)); intro gb258 hg w7 hbox hb; have BK258 := Aside0.mk (hbox); have GW258 := gs_ hg HB; have GE258 := gs_ hg HB; replace HB := hbs_ HB hb; clear hb hbox hg; obtain ⟨hcz8_0, hcz8_1, hcz8_2, hcz8_3, hcz8_4, hcz8_5, hfz8_0, hfz8_1, hfz8_2, hfz8_3, hfz8_4, hfz8_5⟩ := bx6 BK258) | ((with_reducible refine gate_callee (f := 7) rfl ?_); refine gl_ (some 22) Try.func7 #[.agg #[.int .i64 a0_0, .int .i64 a0_1, .int .i64 a0_2, .slice A0_3 l0_3.length c0_3, .slice A0_4 l0_4.length c0_4, .slice A0_5 l0_5.length c0_5], .int .i64 1048576] rfl rfl rfl ?_; (with_reducible refine (laws_szModel.calls a0_0 a0_1 a0_2 _ _ l0_3 _ _ l0_4 _ _ l0_5 1048576 t259 _ ?side1 ?side2 ?side3 ?side4 ?side5 ?side6 A5.out).mono ?_); (case side1 => exact Kd.C_w HR0_3 HB); (case side2 => exact HC0_3.out); (case side3 => exact Kd.C_w HR0_4 HB); (case side4 => exact HC0_4.out); (case side5 => exact Kd.C_w HR0_5 HB); (case side6 => exact HC0_5.out); rintro e w9 ⟨rfl, hb⟩; refine ⟨_, rfl, ?_⟩; replace BK258 := kb_ BK258 hb; replace HB := hbs_ HB hb; (try clear hb); (try clear hb2); (try clear hk); (try clear hi)))
   go_ret
   exact ⟨by first | rfl | (simp [errW_none, errW_some] <;> rfl) | (simp [*, errW_none, errW_some] <;> rfl), hb_ HB⟩
  ·rw [if_neg c6] at H
   have c6b0 : decide (t259 < 0) = false := decide_eq_false c6
   clear c6
   replace H := Option.bind_eq_some_iff.mp H
   obtain ⟨⟨t260, t261, t262, t263, t266, t269⟩, A100, H⟩ := H
   replace H : ((laws_toIntS.f k l1).bind fun t272 => ((spec_EmptyBlocks.f k t260 t261 t262 t263 t266 t269 t272).bind fun bt275 => ((laws_toModel.f k a0_0 a0_1 a0_2 l0_3 l0_4 l0_5).bind fun bt289 => ((laws_toIntS.f k l1).bind fun t302 => ((impl_EmptyBlocks.f k bt289.1 bt289.2.1 bt289.2.2.1 bt289.2.2.2.1 bt289.2.2.2.2.1 bt289.2.2.2.2.2 t302).bind fun bt305 => ((laws_eqModel.f k bt305.1 bt305.2.1 bt305.2.2.1 bt305.2.2.2.1 bt305.2.2.2.2.1 bt305.2.2.2.2.2.1 bt275.1 bt275.2.1 bt275.2.2.1 bt275.2.2.2.1 bt275.2.2.2.2.1 bt275.2.2.2.2.2.1).bind fun t319 => (if t319 = true then (laws_FnExactEmptyBlocks.j0 k l1 bt275.2.2.2.2.2.2 t302 bt305.2.2.2.2.2.2 (bt305.2.2.2.2.2.2 != bt275.2.2.2.2.2.2) a0_0 a0_1 a0_2 l0_3 l0_4 l0_5 bt275.1 bt275.2.1 bt275.2.2.1 bt275.2.2.2.1 bt275.2.2.2.2.1 bt275.2.2.2.2.2.1 bt289.1 bt289.2.1 bt289.2.2.1 bt289.2.2.2.1 bt289.2.2.2.2.1 bt289.2.2.2.2.2 bt305.1 bt305.2.1 bt305.2.2.1 bt305.2.2.2.1 bt305.2.2.2.2.1 bt305.2.2.2.2.2.1) else (laws_FnExactEmptyBlocks.j0 k l1 bt275.2.2.2.2.2.2 t302 bt305.2.2.2.2.2.2 true a0_0 a0_1 a0_2 l0_3 l0_4 l0_5 bt275.1 bt275.2.1 bt275.2.2.1 bt275.2.2.2.1 bt275.2.2.2.2.1 bt275.2.2.2.2.2.1 bt289.1 bt289.2.1 bt289.2.2.1 bt289.2.2.2.1 bt289.2.2.2.2.1 bt289.2.2.2.2.2 bt305.1 bt305.2.1 bt305.2.2.1 bt305.2.2.2.1 bt305.2.2.2.2.1 bt305.2.2.2.2.2.1)))))))) = some r := H
   have A10 := Aside0.mk A100
   clear A100
   replace H := Option.bind_eq_some_iff.mp H
   obtain ⟨t272, A110, H⟩ := H
   replace H : ((spec_EmptyBlocks.f k t260 t261 t262 t263 t266 t269 t272).bind fun bt275 => ((laws_toModel.f k a0_0 a0_1 a0_2 l0_3 l0_4 l0_5).bind fun bt289 => ((laws_toIntS.f k l1).bind fun t302 => ((impl_EmptyBlocks.f k bt289.1 bt289.2.1 bt289.2.2.1 bt289.2.2.2.1 bt289.2.2.2.2.1 bt289.2.2.2.2.2 t302).bind fun bt305 => ((laws_eqModel.f k bt305.1 bt305.2.1 bt305.2.2.1 bt305.2.2.2.1 bt305.2.2.2.2.1 bt305.2.2.2.2.2.1 bt275.1 bt275.2.1 bt275.2.2.1 bt275.2.2.2.1 bt275.2.2.2.2.1 bt275.2.2.2.2.2.1).bind fun t319 => (if t319 = true then (laws_FnExactEmptyBlocks.j0 k l1 bt275.2.2.2.2.2.2 t302 bt305.2.2.2.2.2.2 (bt305.2.2.2.2.2.2 != bt275.2.2.2.2.2.2) a0_0 a0_1 a0_2 l0_3 l0_4 l0_5 bt275.1 bt275.2.1 bt275.2.2.1 bt275.2.2.2.1 bt275.2.2.2.2.1 bt275.2.2.2.2.2.1 bt289.1 bt289.2.1 bt289.2.2.1 bt289.2.2.2.1 bt289.2.2.2.2.1 bt289.2.2.2.2.2 bt305.1 bt305.2.1 bt305.2.2.1 bt305.2.2.2.1 bt305.2.2.2.2.1 bt305.2.2.2.2.2.1) else (laws_FnExactEmptyBlocks.j0 k l1 bt275.2.2.2.2.2.2 t302 bt305.2.2.2.2.2.2 true a0_0 a0_1 a0_2 l0_3 l0_4 l0_5 bt275.1 bt275.2.1 bt275.2.2.1 bt275.2.2.2.1 bt275.2.2.2.2.1 bt275.2.2.2.2.2.1 bt289.1 bt289.2.1 bt289.2.2.1 bt289.2.2.2.1 bt289.2.2.2.2.1 bt289.2.2.2.2.2 bt305.1 bt305.2.1 bt305.2.2.1 bt305.2.2.2.1 bt305.2.2.2.2.1 bt305.2.2.2.2.2.1))))))) = some r := H
   have A11 := Aside0.mk A110
   clear A110
   replace H := Option.bind_eq_some_iff.mp H
   obtain ⟨⟨t275, t276, t277, t278, t281, t284, t287⟩, A120, H⟩ := H
   replace H : ((laws_toModel.f k a0_0 a0_1 a0_2 l0_3 l0_4 l0_5).bind fun bt289 => ((laws_toIntS.f k l1).bind fun t302 => ((impl_EmptyBlocks.f k bt289.1 bt289.2.1 bt289.2.2.1 bt289.2.2.2.1 bt289.2.2.2.2.1 bt289.2.2.2.2.2 t302).bind fun bt305 => ((laws_eqModel.f k bt305.1 bt305.2.1 bt305.2.2.1 bt305.2.2.2.1 bt305.2.2.2.2.1 bt305.2.2.2.2.2.1 t275 t276 t277 t278 t281 t284).bind fun t319 => (if t319 = true then (laws_FnExactEmptyBlocks.j0 k l1 t287 t302 bt305.2.2.2.2.2.2 (bt305.2.2.2.2.2.2 != t287) a0_0 a0_1 a0_2 l0_3 l0_4 l0_5 t275 t276 t277 t278 t281 t284 bt289.1 bt289.2.1 bt289.2.2.1 bt289.2.2.2.1 bt289.2.2.2.2.1 bt289.2.2.2.2.2 bt305.1 bt305.2.1 bt305.2.2.1 bt305.2.2.2.1 bt305.2.2.2.2.1 bt305.2.2.2.2.2.1) else (laws_FnExactEmptyBlocks.j0 k l1 t287 t302 bt305.2.2.2.2.2.2 true a0_0 a0_1 a0_2 l0_3 l0_4 l0_5 t275 t276 t277 t278 t281 t284 bt289.1 bt289.2.1 bt289.2.2.1 bt289.2.2.2.1 bt289.2.2.2.2.1 bt289.2.2.2.2.2 bt305.1 bt305.2.1 bt305.2.2.1 bt305.2.2.2.1 bt305.2.2.2.2.1 bt305.2.2.2.2.2.1)))))) = some r := H
   have A12 := Aside0.mk A120
   clear A120
   replace H := Option.bind_eq_some_iff.mp H
   obtain ⟨⟨t289, t290, t291, t292, t295, t298⟩, A130, H⟩ := H
   replace H : ((laws_toIntS.f k l1).bind fun t302 => ((impl_EmptyBlocks.f k t289 t290 t291 t292 t295 t298 t302).bind fun bt305 => ((laws_eqModel.f k bt305.1 bt305.2.1 bt305.2.2.1 bt305.2.2.2.1 bt305.2.2.2.2.1 bt305.2.2.2.2.2.1 t275 t276 t277 t278 t281 t284).bind fun t319 => (if t319 = true then (laws_FnExactEmptyBlocks.j0 k l1 t287 t302 bt305.2.2.2.2.2.2 (bt305.2.2.2.2.2.2 != t287) a0_0 a0_1 a0_2 l0_3 l0_4 l0_5 t275 t276 t277 t278 t281 t284 t289 t290 t291 t292 t295 t298 bt305.1 bt305.2.1 bt305.2.2.1 bt305.2.2.2.1 bt305.2.2.2.2.1 bt305.2.2.2.2.2.1) else (laws_FnExactEmptyBlocks.j0 k l1 t287 t302 bt305.2.2.2.2.2.2 true a0_0 a0_1 a0_2 l0_3 l0_4 l0_5 t275 t276 t277 t278 t281 t284 t289 t290 t291 t292 t295 t298 bt305.1 bt305.2.1 bt305.2.2.1 bt305.2.2.2.1 bt305.2.2.2.2.1 bt305.2.2.2.2.2.1))))) = some r := H
   have A13 := Aside0.mk A130
   clear A130
   replace H := Option.bind_eq_some_iff.mp H
   obtain ⟨t302, A140, H⟩ := H
   replace H : ((impl_EmptyBlocks.f k t289 t290 t291 t292 t295 t298 t302).bind fun bt305 => ((laws_eqModel.f k bt305.1 bt305.2.1 bt305.2.2.1 bt305.2.2.2.1 bt305.2.2.2.2.1 bt305.2.2.2.2.2.1 t275 t276 t277 t278 t281 t284).bind fun t319 => (if t319 = true then (laws_FnExactEmptyBlocks.j0 k l1 t287 t302 bt305.2.2.2.2.2.2 (bt305.2.2.2.2.2.2 != t287) a0_0 a0_1 a0_2 l0_3 l0_4 l0_5 t275 t276 t277 t278 t281 t284 t289 t290 t291 t292 t295 t298 bt305.1 bt305.2.1 bt305.2.2.1 bt305.2.2.2.1 bt305.2.2.2.2.1 bt305.2.2.2.2.2.1) else (laws_FnExactEmptyBlocks.j0 k l1 t287 t302 bt305.2.2.2.2.2.2 true a0_0 a0_1 a0_2 l0_3 l0_4 l0_5 t275 t276 t277 t278 t281 t284 t289 t290 t291 t292 t295 t298 bt305.1 bt305.2.1 bt305.2.2.1 bt305.2.2.2.1 bt305.2.2.2.2.1 bt305.2.2.2.2.2.1)))) = some r := H
   have A14 := Aside0.mk A140
   clear A140
   replace H := Option.bind_eq_some_iff.mp H
   obtain ⟨⟨t305, t306, t307, t308, t311, t314, t317⟩, A150, H⟩ := H
   replace H : ((laws_eqModel.f k t305 t306 t307 t308 t311 t314 t275 t276 t277 t278 t281 t284).bind fun t319 => (if t319 = true then (laws_FnExactEmptyBlocks.j0 k l1 t287 t302 t317 (t317 != t287) a0_0 a0_1 a0_2 l0_3 l0_4 l0_5 t275 t276 t277 t278 t281 t284 t289 t290 t291 t292 t295 t298 t305 t306 t307 t308 t311 t314) else (laws_FnExactEmptyBlocks.j0 k l1 t287 t302 t317 true a0_0 a0_1 a0_2 l0_3 l0_4 l0_5 t275 t276 t277 t278 t281 t284 t289 t290 t291 t292 t295 t298 t305 t306 t307 t308 t311 t314))) = some r := H
   have A15 := Aside0.mk A150
   clear A150
   have HC16 := Aside0.mk H
   clear H
   go_enter Try.func4, Try.ntmps4
   go_upto_region 11 with (first | ((with_reducible refine gate_dst (N := 2) rfl ?_); refine box_event ?hg (N := 2) ?hd (cs := #[.int .i64 a0_0, .int .i64 a0_1, .int .i64 a0_2, .slice A0_3 l0_3.length c0_3, .slice A0_4 l0_4.length c0_4, .slice A0_5 l0_5.length c0_5]) (t := 26) ?hr ?_; (case hd => rfl); (case hg => rfl); (case hr => first | (go_simp; done) | (go_simp; rfl)); intro gb258 hg w17 hbox hb; have BK258 := Aside0.mk (hbox); have GW258 := gs_ hg HB; have GE258 := gs_ hg HB; replace HB := hbs_ HB hb; clear hb hbox hg; obtain ⟨hcz18_0, hcz18_1, hcz18_2, hcz18_3, hcz18_4, hcz18_5, hfz18_0, hfz18_1, hfz18_2, hfz18_3, hfz18_4, hfz18_5⟩ := bx6 BK258) | ((with_reducible refine gate_callee (f := 7) rfl ?_); refine gl_ (some 22) Try.func7 #[.agg #[.int .i64 a0_0, .int .i64 a0_1, .int .i64 a0_2, .slice A0_3 l0_3.length c0_3, .slice A0_4 l0_4.length c0_4, .slice A0_5 l0_5.length c0_5], .int .i64 1048576] rfl rfl rfl ?_; (with_reducible refine (laws_szModel.calls a0_0 a0_1 a0_2 _ _ l0_3 _ _ l0_4 _ _ l0_5 1048576 t259 _ ?side1 ?side2 ?side3 ?side4 ?side5 ?side6 A5.out).mono ?_); (case side1 => exact Kd.C_w HR0_3 HB); (case side2 => exact HC0_3.out); (case side3 => exact Kd.C_w HR0_4 HB); (case side4 => exact HC0_4.out); (case side5 => exact Kd.C_w HR0_5 HB); (case side6 => exact HC0_5.out); rintro e w19 ⟨rfl, hb⟩; refine ⟨_, rfl, ?_⟩; replace BK258 := kb_ BK258 hb; replace HB := hbs_ HB hb; (try clear hb); (try clear hb2); (try clear hk); (try clear hi); obtain ⟨hcz20_0, hcz20_1, hcz20_2, hcz20_3, hcz20_4, hcz20_5, hfz20_0, hfz20_1, hfz20_2, hfz20_3, hfz20_4, hfz20_5⟩ := bx6 BK258) | ((with_reducible refine gate_callee (f := 9) rfl ?_); refine gl_ (some 27) Try.func9 #[.agg #[.int .i64 a0_0, .int .i64 a0_1, .int .i64 a0_2, .slice A0_3 l0_3.length c0_3, .slice A0_4 l0_4.length c0_4, .slice A0_5 l0_5.length c0_5]] rfl rfl rfl ?_; (with_reducible refine (laws_toModel.calls k a0_0 a0_1 a0_2 _ _ l0_3 _ _ l0_4 _ _ l0_5 t260 t261 t262 t263 t266 t269 _ ?side1 ?side2 ?side3 ?side4 ?side5 ?side6 A10.out).mono ?_); (case side1 => exact Kd.C_w HR0_3 HB); (case side2 => exact HC0_3.out); (case side3 => exact Kd.C_w HR0_4 HB); (case side4 => exact HC0_4.out); (case side5 => exact Kd.C_w HR0_5 HB); (case side6 => exact HC0_5.out); rintro e w21 ⟨v264, v267, v270, rfl, ho0, ho1, ho2, hb⟩; refine ⟨_, rfl, ?_⟩; have HO265 := Aside0.mk (Kd.R_lower ho0 (below_size (hb_ HB))); have HO268 := Aside0.mk (Kd.R_lower ho1 (below_size (hb_ HB))); have HO271 := Aside0.mk (Kd.R_lower ho2 (below_size (hb_ HB))); replace BK258 := kb_ BK258 hb; replace HB := hbs_ HB hb; (try clear hb); (try clear hb2); (try clear hk); (try clear hi); (try clear ho0); (try clear ho1); (try clear ho2)) | ((with_reducible refine gate_callee (f := 15) rfl ?_); refine gl_ (some 29) Try.func15 #[.slice A1 l1.length c1] rfl rfl rfl ?_; (with_reducible refine (laws_toIntS.calls k _ _ l1 t272 _ ?side1 ?side2 A11.out).mono ?_); (case side1 => exact Kd.C_w HR1 HB); (case side2 => exact HC1.out); rintro e w22 ⟨v273, rfl, ho0, hb⟩; refine ⟨_, rfl, ?_⟩; have HO274 := Aside0.mk (Kd.R_lower (Kd.R_new' (Kd.R_new' (Kd.R_new' ho0 (Kd.R_lt (Kd.R_p HO265))) (Kd.R_lt (Kd.R_p HO268))) (Kd.R_lt (Kd.R_p HO271))) (below_size (hb_ HB))); replace HO265 := Kd.R_e HO265 ho0 hb; replace HO268 := Kd.R_e HO268 ho0 hb; replace HO271 := Kd.R_e HO271 ho0 hb; replace BK258 := kb_ BK258 hb; replace HB := hbs_ HB hb; (try clear hb); (try clear hb2); (try clear hk); (try clear hi); (try clear ho0); obtain ⟨Ao23, co23, eo23⟩ := Kd.R_slice HO265.out; subst eo23; obtain ⟨Ao24, co24, eo24⟩ := Kd.R_slice HO268.out; subst eo24; obtain ⟨Ao25, co25, eo25⟩ := Kd.R_slice HO271.out; subst eo25; obtain ⟨Ao26, co26, eo26⟩ := Kd.R_slice HO274.out; subst eo26) | ((with_reducible refine gate_callee (f := 14) rfl ?_); refine gl_ (some 30) Try.func14 #[.agg #[.int .i64 t260, .int .i64 t261, .int .i64 t262, .slice Ao23 t263.length co23, .slice Ao24 t266.length co24, .slice Ao25 t269.length co25], .slice Ao26 t272.length co26] rfl rfl rfl ?_; (with_reducible refine (spec_EmptyBlocks.calls k t260 t261 t262 _ _ t263 _ _ t266 _ _ t269 _ _ t272 t275 t276 t277 t278 t281 t284 t287 _ ?side1 ?side2 ?side3 ?side4 ?side5 ?side6 ?side7 ?side8 A12.out).mono ?_); (case side1 => exact Kd.C_o HO265); (case side2 => exact (Kd.R_reads' HO265.out).2.1); (case side3 => exact Kd.C_o HO268); (case side4 => exact (Kd.R_reads' HO268.out).2.1); (case side5 => exact Kd.C_o HO271); (case side6 => exact (Kd.R_reads' HO271.out).2.1); (case side7 => exact Kd.C_o HO274); (case side8 => exact (Kd.R_reads' HO274.out).2.1); rintro e w27 ⟨v279, v282, v285, rfl, ho0, ho1, ho2, hb⟩; refine ⟨_, rfl, ?_⟩; have HO280 := Aside0.mk (Kd.R_lower (Kd.R_new' (Kd.R_new' (Kd.R_new' (Kd.R_new' ho0 (Kd.R_lt (Kd.R_p HO265))) (Kd.R_lt (Kd.R_p HO268))) (Kd.R_lt (Kd.R_p HO271))) (Kd.R_lt (Kd.R_p HO274))) (below_size (hb_ HB))); have HO283 := Aside0.mk (Kd.R_lower (Kd.R_new' (Kd.R_new' (Kd.R_new' (Kd.R_new' ho1 (Kd.R_lt (Kd.R_p HO265))) (Kd.R_lt (Kd.R_p HO268))) (Kd.R_lt (Kd.R_p HO271))) (Kd.R_lt (Kd.R_p HO274))) (below_size (hb_ HB))); have HO286 := Aside0.mk (Kd.R_lower (Kd.R_new' (Kd.R_new' (Kd.R_new' (Kd.R_new' ho2 (Kd.R_lt (Kd.R_p HO265))) (Kd.R_lt (Kd.R_p HO268))) (Kd.R_lt (Kd.R_p HO271))) (Kd.R_lt (Kd.R_p HO274))) (below_size (hb_ HB))); replace HO265 := Kd.R_e3 HO265 ho0 ho1 ho2 hb; replace HO268 := Kd.R_e3 HO268 ho0 ho1 ho2 hb; replace HO271 := Kd.R_e3 HO271 ho0 ho1 ho2 hb; replace HO274 := Kd.R_e3 HO274 ho0 ho1 ho2 hb; replace BK258 := kb_ BK258 hb; replace HB := hbs_ HB hb; (try clear hb); (try clear hb2); (try clear hk); (try clear hi); (try clear ho0); (try clear ho1); (try clear ho2); try clear HO265; try clear HO268; try clear HO271; try clear HO274) | ((with_reducible refine gate_dst (N := 6) rfl ?_); refine box_event ?hg (N := 6) ?hd (cs := #[.int .i64 0, .int .i64 0, .int .i64 0, .slice none 0 0, .slice none 0 0, .slice none 0 0]) (t := 30) ?hr ?_; (case hd => rfl); (case hg => rfl); (case hr => first | (go_simp; done) | (go_simp; rfl)); intro gb288 hg w28 hbox hb; have BK288 := Aside0.mk (hbox); have GW288 := gs_ hg HB; have GE288 := gs_ hg HB; have NB258_288 := nl_ hg BK258; have NB288_258 := ng_ hg BK258; replace HO280 := Kd.R_b HO280 hb; replace HO283 := Kd.R_b HO283 hb; replace HO286 := Kd.R_b HO286 hb; replace BK258 := kb_ BK258 hb; replace HB := hbs_ HB hb; clear hb hbox hg; have hnb29 := NB288_258.out; have hnc29 := NB258_288.out; obtain ⟨hcz30_0, hcz30_1, hcz30_2, hcz30_3, hcz30_4, hcz30_5, hfz30_0, hfz30_1, hfz30_2, hfz30_3, hfz30_4, hfz30_5⟩ := bx6 BK288; obtain ⟨Ao31, co31, eo31⟩ := Kd.R_slice HO280.out; subst eo31; obtain ⟨Ao32, co32, eo32⟩ := Kd.R_slice HO283.out; subst eo32; obtain ⟨Ao33, co33, eo33⟩ := Kd.R_slice HO286.out; subst eo33; obtain ⟨hcz34_0, hcz34_1, hcz34_2, hcz34_3, hcz34_4, hcz34_5, hfz34_0, hfz34_1, hfz34_2, hfz34_3, hfz34_4, hfz34_5⟩ := bx6 BK258) | ((with_reducible refine gate_callee (f := 9) rfl ?_); refine gl_ (some 34) Try.func9 #[.agg #[.int .i64 a0_0, .int .i64 a0_1, .int .i64 a0_2, .slice A0_3 l0_3.length c0_3, .slice A0_4 l0_4.length c0_4, .slice A0_5 l0_5.length c0_5]] rfl rfl rfl ?_; (with_reducible refine (laws_toModel.calls k a0_0 a0_1 a0_2 _ _ l0_3 _ _ l0_4 _ _ l0_5 t289 t290 t291 t292 t295 t298 _ ?side1 ?side2 ?side3 ?side4 ?side5 ?side6 A13.out).mono ?_); (case side1 => exact Kd.C_below HR0_3.out (hb_ HB)); (case side2 => exact HC0_3.out); (case side3 => exact Kd.C_below HR0_4.out (hb_ HB)); (case side4 => exact HC0_4.out); (case side5 => exact Kd.C_below HR0_5.out (hb_ HB)); (case side6 => exact HC0_5.out); rintro e w35 ⟨v293, v296, v299, rfl, ho0, ho1, ho2, hb⟩; refine ⟨_, rfl, ?_⟩; have HO294 := Aside0.mk (Kd.R_lower (Kd.R_new' (Kd.R_new' (Kd.R_new' ho0 (Kd.R_lt (Kd.R_s HO280 BK288))) (Kd.R_lt (Kd.R_s HO283 BK288))) (Kd.R_lt (Kd.R_s HO286 BK288))) (below_size (hb_ HB))); have HO297 := Aside0.mk (Kd.R_lower (Kd.R_new' (Kd.R_new' (Kd.R_new' ho1 (Kd.R_lt (Kd.R_s HO280 BK288))) (Kd.R_lt (Kd.R_s HO283 BK288))) (Kd.R_lt (Kd.R_s HO286 BK288))) (below_size (hb_ HB))); have HO300 := Aside0.mk (Kd.R_lower (Kd.R_new' (Kd.R_new' (Kd.R_new' ho2 (Kd.R_lt (Kd.R_s HO280 BK288))) (Kd.R_lt (Kd.R_s HO283 BK288))) (Kd.R_lt (Kd.R_s HO286 BK288))) (below_size (hb_ HB))); replace HO280 := Aside0.mk (Kd.R_mono (Kd.R_told (Kd.R_told (Kd.R_told (Kd.R_old (Kd.R_s HO280 BK288) hb) (Kd.R_base ho0)) (Kd.R_base ho1)) (Kd.R_base ho2)) (fun _ h_ => h_.1)); replace HO283 := Aside0.mk (Kd.R_mono (Kd.R_told (Kd.R_told (Kd.R_told (Kd.R_old (Kd.R_s HO283 BK288) hb) (Kd.R_base ho0)) (Kd.R_base ho1)) (Kd.R_base ho2)) (fun _ h_ => h_.1)); replace HO286 := Aside0.mk (Kd.R_mono (Kd.R_told (Kd.R_told (Kd.R_told (Kd.R_old (Kd.R_s HO286 BK288) hb) (Kd.R_base ho0)) (Kd.R_base ho1)) (Kd.R_base ho2)) (fun _ h_ => h_.1)); replace BK258 := kfb_ BK258 NB258_288 hb; replace HB := hbs_ HB hb; replace BK288 := Aside0.mk (blk_below (g := gb288) (o := .cells #[.int .i64 t275, .int .i64 t276, .int .i64 t277, .slice Ao31 t278.length co31, .slice Ao32 t281.length co32, .slice Ao33 t284.length co33] 30 (0, 0)) (kpq_ (kputs BK288 [(0, .int .i64 t275), (1, .int .i64 t276), (2, .int .i64 t277), (3, .slice Ao31 t278.length co31), (4, .slice Ao32 t281.length co32), (5, .slice Ao33 t284.length co33)])) hb); (try clear hb); (try clear hb2); (try clear hk); (try clear hi); (try clear ho0); (try clear ho1); (try clear ho2)) | ((with_reducible refine gate_dst (N := 8) rfl ?_); refine box_event ?hg (N := 8) ?hd (cs := #[.int .i64 0, .int .i64 0, .int .i64 0, .slice none 0 0, .slice none 0 0, .slice none 0 0]) (t := 30) ?hr ?_; (case hd => rfl); (case hg => rfl); (case hr => first | (go_simp; done) | (go_simp; rfl)); intro gb301 hg w36 hbox hb; have BK301 := Aside0.mk (hbox); have GW301 := gs_ hg HB; have GE301 := gs_ hg HB; have NB258_301 := nl_ hg BK258; have NB301_258 := ng_ hg BK258; have NB288_301 := nl_ hg BK288; have NB301_288 := ng_ hg BK288; replace HO280 := Kd.R_b HO280 hb; replace HO283 := Kd.R_b HO283 hb; replace HO286 := Kd.R_b HO286 hb; replace HO294 := Kd.R_b HO294 hb; replace HO297 := Kd.R_b HO297 hb; replace HO300 := Kd.R_b HO300 hb; replace BK258 := kb_ BK258 hb; replace BK288 := kb_ BK288 hb; replace HB := hbs_ HB hb; clear hb hbox hg; have hnb37 := NB301_258.out; have hnc37 := NB258_301.out; have hnb38 := NB301_288.out; have hnc38 := NB288_301.out; obtain ⟨hcz39_0, hcz39_1, hcz39_2, hcz39_3, hcz39_4, hcz39_5, hfz39_0, hfz39_1, hfz39_2, hfz39_3, hfz39_4, hfz39_5⟩ := bx6 BK301; obtain ⟨Ao40, co40, eo40⟩ := Kd.R_slice HO294.out; subst eo40; obtain ⟨Ao41, co41, eo41⟩ := Kd.R_slice HO297.out; subst eo41; obtain ⟨Ao42, co42, eo42⟩ := Kd.R_slice HO300.out; subst eo42) | ((with_reducible refine gate_callee (f := 15) rfl ?_); refine gl_ (some 36) Try.func15 #[.slice A1 l1.length c1] rfl rfl rfl ?_; (with_reducible refine (laws_toIntS.calls k _ _ l1 t302 _ ?side1 ?side2 A14.out).mono ?_); (case side1 => exact Kd.C_below HR1.out (hb_ HB)); (case side2 => exact HC1.out); rintro e w43 ⟨v303, rfl, ho0, hb⟩; refine ⟨_, rfl, ?_⟩; have HO304 := Aside0.mk (Kd.R_lower (Kd.R_new' (Kd.R_new' (Kd.R_new' (Kd.R_new' (Kd.R_new' (Kd.R_new' ho0 (Kd.R_lt (Kd.R_s HO280 BK301))) (Kd.R_lt (Kd.R_s HO283 BK301))) (Kd.R_lt (Kd.R_s HO286 BK301))) (Kd.R_lt (Kd.R_s HO294 BK301))) (Kd.R_lt (Kd.R_s HO297 BK301))) (Kd.R_lt (Kd.R_s HO300 BK301))) (below_size (hb_ HB))); replace HO280 := Aside0.mk (Kd.R_elder' (Kd.R_s HO280 BK301) (Kd.R_base ho0) hb); replace HO283 := Aside0.mk (Kd.R_elder' (Kd.R_s HO283 BK301) (Kd.R_base ho0) hb); replace HO286 := Aside0.mk (Kd.R_elder' (Kd.R_s HO286 BK301) (Kd.R_base ho0) hb); replace HO294 := Aside0.mk (Kd.R_elder' (Kd.R_s HO294 BK301) (Kd.R_base ho0) hb); replace HO297 := Aside0.mk (Kd.R_elder' (Kd.R_s HO297 BK301) (Kd.R_base ho0) hb); replace HO300 := Aside0.mk (Kd.R_elder' (Kd.R_s HO300 BK301) (Kd.R_base ho0) hb); replace BK258 := kfb_ BK258 NB258_301 hb; replace BK288 := kfb_ BK288 NB288_301 hb; replace HB := hbs_ HB hb; replace BK301 := Aside0.mk (blk_below (g := gb301) (o := .cells #[.int .i64 t289, .int .i64 t290, .int .i64 t291, .slice Ao40 t292.length co40, .slice Ao41 t295.length co41, .slice Ao42 t298.length co42] 30 (0, 0)) (kpq_ (kputs BK301 [(0, .int .i64 t289), (1, .int .i64 t290), (2, .int .i64 t291), (3, .slice Ao40 t292.length co40), (4, .slice Ao41 t295.length co41), (5, .slice Ao42 t298.length co42)])) hb); (try clear hb); (try clear hb2); (try clear hk); (try clear hi); (try clear ho0); obtain ⟨hcz44_0, hcz44_1, hcz44_2, hcz44_3, hcz44_4, hcz44_5, hfz44_0, hfz44_1, hfz44_2, hfz44_3, hfz44_4, hfz44_5⟩ := bx6 BK301; obtain ⟨Ao45, co45, eo45⟩ := Kd.R_slice HO304.out; subst eo45) | ((with_reducible refine gate_callee (f := 16) rfl ?_); refine gl_ (some 40) Try.func16 #[.agg #[.int .i64 t289, .int .i64 t290, .int .i64 t291, .slice Ao40 t292.length co40, .slice Ao41 t295.length co41, .slice Ao42 t298.length co42], .slice Ao45 t302.length co45] rfl rfl rfl ?_; (with_reducible refine (impl_EmptyBlocks.calls k t289 t290 t291 _ _ t292 _ _ t295 _ _ t298 _ _ t302 t305 t306 t307 t308 t311 t314 t317 _ ?side1 ?side2 ?side3 ?side4 ?side5 ?side6 ?side7 ?side8 A15.out).mono ?_); (case side1 => exact Kd.C_o HO294); (case side2 => exact (Kd.R_reads' HO294.out).2.1); (case side3 => exact Kd.C_o HO297); (case side4 => exact (Kd.R_reads' HO297.out).2.1); (case side5 => exact Kd.C_o HO300); (case side6 => exact (Kd.R_reads' HO300.out).2.1); (case side7 => exact Kd.C_o HO304); (case side8 => exact (Kd.R_reads' HO304.out).2.1); rintro e w46 ⟨v309, v312, v315, rfl, ho0, ho1, ho2, hb⟩; refine ⟨_, rfl, ?_⟩; have HO310 := Aside0.mk (Kd.R_lower (Kd.R_new' (Kd.R_new' (Kd.R_new' (Kd.R_new' (Kd.R_new' (Kd.R_new' (Kd.R_new' ho0 (Kd.R_lt (Kd.R_p HO280))) (Kd.R_lt (Kd.R_p HO283))) (Kd.R_lt (Kd.R_p HO286))) (Kd.R_lt (Kd.R_p HO294))) (Kd.R_lt (Kd.R_p HO297))) (Kd.R_lt (Kd.R_p HO300))) (Kd.R_lt (Kd.R_p HO304))) (below_size (hb_ HB))); have HO313 := Aside0.mk (Kd.R_lower (Kd.R_new' (Kd.R_new' (Kd.R_new' (Kd.R_new' (Kd.R_new' (Kd.R_new' (Kd.R_new' ho1 (Kd.R_lt (Kd.R_p HO280))) (Kd.R_lt (Kd.R_p HO283))) (Kd.R_lt (Kd.R_p HO286))) (Kd.R_lt (Kd.R_p HO294))) (Kd.R_lt (Kd.R_p HO297))) (Kd.R_lt (Kd.R_p HO300))) (Kd.R_lt (Kd.R_p HO304))) (below_size (hb_ HB))); have HO316 := Aside0.mk (Kd.R_lower (Kd.R_new' (Kd.R_new' (Kd.R_new' (Kd.R_new' (Kd.R_new' (Kd.R_new' (Kd.R_new' ho2 (Kd.R_lt (Kd.R_p HO280))) (Kd.R_lt (Kd.R_p HO283))) (Kd.R_lt (Kd.R_p HO286))) (Kd.R_lt (Kd.R_p HO294))) (Kd.R_lt (Kd.R_p HO297))) (Kd.R_lt (Kd.R_p HO300))) (Kd.R_lt (Kd.R_p HO304))) (below_size (hb_ HB))); replace HO280 := Kd.R_e3 HO280 ho0 ho1 ho2 hb; replace HO283 := Kd.R_e3 HO283 ho0 ho1 ho2 hb; replace HO286 := Kd.R_e3 HO286 ho0 ho1 ho2 hb; replace HO294 := Kd.R_e3 HO294 ho0 ho1 ho2 hb; replace HO297 := Kd.R_e3 HO297 ho0 ho1 ho2 hb; replace HO300 := Kd.R_e3 HO300 ho0 ho1 ho2 hb; replace HO304 := Kd.R_e3 HO304 ho0 ho1 ho2 hb; replace BK258 := kb_ BK258 hb; replace BK288 := kb_ BK288 hb; replace BK301 := kb_ BK301 hb; replace HB := hbs_ HB hb; (try clear hb); (try clear hb2); (try clear hk); (try clear hi); (try clear ho0); (try clear ho1); (try clear ho2)) | ((with_reducible refine gate_dst (N := 10) rfl ?_); refine box_event ?hg (N := 10) ?hd (cs := #[.int .i64 0, .int .i64 0, .int .i64 0, .slice none 0 0, .slice none 0 0, .slice none 0 0]) (t := 30) ?hr ?_; (case hd => rfl); (case hg => rfl); (case hr => first | (go_simp; done) | (go_simp; rfl)); intro gb318 hg w47 hbox hb; have BK318 := Aside0.mk (hbox); have GW318 := gs_ hg HB; have GE318 := gs_ hg HB; have NB258_318 := nl_ hg BK258; have NB318_258 := ng_ hg BK258; have NB288_318 := nl_ hg BK288; have NB318_288 := ng_ hg BK288; have NB301_318 := nl_ hg BK301; have NB318_301 := ng_ hg BK301; replace HO280 := Kd.R_b HO280 hb; replace HO283 := Kd.R_b HO283 hb; replace HO286 := Kd.R_b HO286 hb; replace HO294 := Kd.R_b HO294 hb; replace HO297 := Kd.R_b HO297 hb; replace HO300 := Kd.R_b HO300 hb; replace HO304 := Kd.R_b HO304 hb; replace HO310 := Kd.R_b HO310 hb; replace HO313 := Kd.R_b HO313 hb; replace HO316 := Kd.R_b HO316 hb; replace BK258 := kb_ BK258 hb; replace BK288 := kb_ BK288 hb; replace BK301 := kb_ BK301 hb; replace HB := hbs_ HB hb; clear hb hbox hg; have hnb48 := NB318_258.out; have hnc48 := NB258_318.out; have hnb49 := NB318_288.out; have hnc49 := NB288_318.out; have hnb50 := NB318_301.out; have hnc50 := NB301_318.out; obtain ⟨hcz51_0, hcz51_1, hcz51_2, hcz51_3, hcz51_4, hcz51_5, hfz51_0, hfz51_1, hfz51_2, hfz51_3, hfz51_4, hfz51_5⟩ := bx6 BK318; obtain ⟨Ao52, co52, eo52⟩ := Kd.R_slice HO310.out; subst eo52; obtain ⟨Ao53, co53, eo53⟩ := Kd.R_slice HO313.out; subst eo53; obtain ⟨Ao54, co54, eo54⟩ := Kd.R_slice HO316.out; subst eo54))
   (try simp only [Act.put, List.setIfInBounds_toArray, List.set_cons_zero, List.set_cons_succ])
   go_cut [51] (fun v51 wc => ∃ (kq : Nat) (x51_15 : Bool), v51 = .bool x51_15 ∧ Aside0 (laws_FnExactEmptyBlocks.j0 kq l1 t287 t302 t317 x51_15 a0_0 a0_1 a0_2 l0_3 l0_4 l0_5 t275 t276 t277 t278 t281 t284 t289 t290 t291 t292 t295 t298 t305 t306 t307 t308 t311 t314 = some r) ∧ Aside0 (kq ≤ k) ∧ Aside0 (Kd.R (Kd.int .i64) 3 wc w.heap.size (fun k_ => some k_ ≠ ((.slice Ao31 t278.length co31) : Value).ownBlock ∧ some k_ ≠ ((.slice Ao32 t281.length co32) : Value).ownBlock ∧ some k_ ≠ ((.slice Ao33 t284.length co33) : Value).ownBlock ∧ some k_ ≠ ((.slice Ao40 t292.length co40) : Value).ownBlock ∧ some k_ ≠ ((.slice Ao41 t295.length co41) : Value).ownBlock ∧ some k_ ≠ ((.slice Ao42 t298.length co42) : Value).ownBlock ∧ some k_ ≠ ((.slice Ao52 t308.length co52) : Value).ownBlock ∧ some k_ ≠ ((.slice Ao53 t311.length co53) : Value).ownBlock ∧ some k_ ≠ ((.slice Ao54 t314.length co54) : Value).ownBlock) (.slice Ao45 t302.length co45) t302) ∧ Aside0 (Kd.R (Kd.int .i64) 3 wc w.heap.size (fun k_ => some k_ ≠ ((.slice Ao45 t302.length co45) : Value).ownBlock ∧ some k_ ≠ ((.slice Ao32 t281.length co32) : Value).ownBlock ∧ some k_ ≠ ((.slice Ao33 t284.length co33) : Value).ownBlock ∧ some k_ ≠ ((.slice Ao40 t292.length co40) : Value).ownBlock ∧ some k_ ≠ ((.slice Ao41 t295.length co41) : Value).ownBlock ∧ some k_ ≠ ((.slice Ao42 t298.length co42) : Value).ownBlock ∧ some k_ ≠ ((.slice Ao52 t308.length co52) : Value).ownBlock ∧ some k_ ≠ ((.slice Ao53 t311.length co53) : Value).ownBlock ∧ some k_ ≠ ((.slice Ao54 t314.length co54) : Value).ownBlock) (.slice Ao31 t278.length co31) t278) ∧ Aside0 (Kd.R (Kd.int .i64) 3 wc w.heap.size (fun k_ => some k_ ≠ ((.slice Ao45 t302.length co45) : Value).ownBlock ∧ some k_ ≠ ((.slice Ao31 t278.length co31) : Value).ownBlock ∧ some k_ ≠ ((.slice Ao33 t284.length co33) : Value).ownBlock ∧ some k_ ≠ ((.slice Ao40 t292.length co40) : Value).ownBlock ∧ some k_ ≠ ((.slice Ao41 t295.length co41) : Value).ownBlock ∧ some k_ ≠ ((.slice Ao42 t298.length co42) : Value).ownBlock ∧ some k_ ≠ ((.slice Ao52 t308.length co52) : Value).ownBlock ∧ some k_ ≠ ((.slice Ao53 t311.length co53) : Value).ownBlock ∧ some k_ ≠ ((.slice Ao54 t314.length co54) : Value).ownBlock) (.slice Ao32 t281.length co32) t281) ∧ Aside0 (Kd.R (Kd.int .i64) 3 wc w.heap.size (fun k_ => some k_ ≠ ((.slice Ao45 t302.length co45) : Value).ownBlock ∧ some k_ ≠ ((.slice Ao31 t278.length co31) : Value).ownBlock ∧ some k_ ≠ ((.slice Ao32 t281.length co32) : Value).ownBlock ∧ some k_ ≠ ((.slice Ao40 t292.length co40) : Value).ownBlock ∧ some k_ ≠ ((.slice Ao41 t295.length co41) : Value).ownBlock ∧ some k_ ≠ ((.slice Ao42 t298.length co42) : Value).ownBlock ∧ some k_ ≠ ((.slice Ao52 t308.length co52) : Value).ownBlock ∧ some k_ ≠ ((.slice Ao53 t311.length co53) : Value).ownBlock ∧ some k_ ≠ ((.slice Ao54 t314.length co54) : Value).ownBlock) (.slice Ao33 t284.length co33) t284) ∧ Aside0 (Kd.R (Kd.int .i64) 3 wc w.heap.size (fun k_ => some k_ ≠ ((.slice Ao45 t302.length co45) : Value).ownBlock ∧ some k_ ≠ ((.slice Ao31 t278.length co31) : Value).ownBlock ∧ some k_ ≠ ((.slice Ao32 t281.length co32) : Value).ownBlock ∧ some k_ ≠ ((.slice Ao33 t284.length co33) : Value).ownBlock ∧ some k_ ≠ ((.slice Ao41 t295.length co41) : Value).ownBlock ∧ some k_ ≠ ((.slice Ao42 t298.length co42) : Value).ownBlock ∧ some k_ ≠ ((.slice Ao52 t308.length co52) : Value).ownBlock ∧ some k_ ≠ ((.slice Ao53 t311.length co53) : Value).ownBlock ∧ some k_ ≠ ((.slice Ao54 t314.length co54) : Value).ownBlock) (.slice Ao40 t292.length co40) t292) ∧ Aside0 (Kd.R (Kd.int .i64) 3 wc w.heap.size (fun k_ => some k_ ≠ ((.slice Ao45 t302.length co45) : Value).ownBlock ∧ some k_ ≠ ((.slice Ao31 t278.length co31) : Value).ownBlock ∧ some k_ ≠ ((.slice Ao32 t281.length co32) : Value).ownBlock ∧ some k_ ≠ ((.slice Ao33 t284.length co33) : Value).ownBlock ∧ some k_ ≠ ((.slice Ao40 t292.length co40) : Value).ownBlock ∧ some k_ ≠ ((.slice Ao42 t298.length co42) : Value).ownBlock ∧ some k_ ≠ ((.slice Ao52 t308.length co52) : Value).ownBlock ∧ some k_ ≠ ((.slice Ao53 t311.length co53) : Value).ownBlock ∧ some k_ ≠ ((.slice Ao54 t314.length co54) : Value).ownBlock) (.slice Ao41 t295.length co41) t295) ∧ Aside0 (Kd.R (Kd.int .i64) 3 wc w.heap.size (fun k_ => some k_ ≠ ((.slice Ao45 t302.length co45) : Value).ownBlock ∧ some k_ ≠ ((.slice Ao31 t278.length co31) : Value).ownBlock ∧ some k_ ≠ ((.slice Ao32 t281.length co32) : Value).ownBlock ∧ some k_ ≠ ((.slice Ao33 t284.length co33) : Value).ownBlock ∧ some k_ ≠ ((.slice Ao40 t292.length co40) : Value).ownBlock ∧ some k_ ≠ ((.slice Ao41 t295.length co41) : Value).ownBlock ∧ some k_ ≠ ((.slice Ao52 t308.length co52) : Value).ownBlock ∧ some k_ ≠ ((.slice Ao53 t311.length co53) : Value).ownBlock ∧ some k_ ≠ ((.slice Ao54 t314.length co54) : Value).ownBlock) (.slice Ao42 t298.length co42) t298) ∧ Aside0 (Kd.R (Kd.int .i64) 3 wc w.heap.size (fun k_ => some k_ ≠ ((.slice Ao45 t302.length co45) : Value).ownBlock ∧ some k_ ≠ ((.slice Ao31 t278.length co31) : Value).ownBlock ∧ some k_ ≠ ((.slice Ao32 t281.length co32) : Value).ownBlock ∧ some k_ ≠ ((.slice Ao33 t284.length co33) : Value).ownBlock ∧ some k_ ≠ ((.slice Ao40 t292.length co40) : Value).ownBlock ∧ some k_ ≠ ((.slice Ao41 t295.length co41) : Value).ownBlock ∧ some k_ ≠ ((.slice Ao42 t298.length co42) : Value).ownBlock ∧ some k_ ≠ ((.slice Ao53 t311.length co53) : Value).ownBlock ∧ some k_ ≠ ((.slice Ao54 t314.length co54) : Value).ownBlock) (.slice Ao52 t308.length co52) t308) ∧ Aside0 (Kd.R (Kd.int .i64) 3 wc w.heap.size (fun k_ => some k_ ≠ ((.slice Ao45 t302.length co45) : Value).ownBlock ∧ some k_ ≠ ((.slice Ao31 t278.length co31) : Value).ownBlock ∧ some k_ ≠ ((.slice Ao32 t281.length co32) : Value).ownBlock ∧ some k_ ≠ ((.slice Ao33 t284.length co33) : Value).ownBlock ∧ some k_ ≠ ((.slice Ao40 t292.length co40) : Value).ownBlock ∧ some k_ ≠ ((.slice Ao41 t295.length co41) : Value).ownBlock ∧ some k_ ≠ ((.slice Ao42 t298.length co42) : Value).ownBlock ∧ some k_ ≠ ((.slice Ao52 t308.length co52) : Value).ownBlock ∧ some k_ ≠ ((.slice Ao54 t314.length co54) : Value).ownBlock) (.slice Ao53 t311.length co53) t311) ∧ Aside0 (Kd.R (Kd.int .i64) 3 wc w.heap.size (fun k_ => some k_ ≠ ((.slice Ao45 t302.length co45) : Value).ownBlock ∧ some k_ ≠ ((.slice Ao31 t278.length co31) : Value).ownBlock ∧ some k_ ≠ ((.slice Ao32 t281.length co32) : Value).ownBlock ∧ some k_ ≠ ((.slice Ao33 t284.length co33) : Value).ownBlock ∧ some k_ ≠ ((.slice Ao40 t292.length co40) : Value).ownBlock ∧ some k_ ≠ ((.slice Ao41 t295.length co41) : Value).ownBlock ∧ some k_ ≠ ((.slice Ao42 t298.length co42) : Value).ownBlock ∧ some k_ ≠ ((.slice Ao52 t308.length co52) : Value).ownBlock ∧ some k_ ≠ ((.slice Ao53 t311.length co53) : Value).ownBlock) (.slice Ao54 t314.length co54) t314) ∧ Aside0 (wc.heap[gb258]? = some (.cells #[.int .i64 a0_0, .int .i64 a0_1, .int .i64 a0_2, (.slice A0_3 l0_3.length c0_3), (.slice A0_4 l0_4.length c0_4), (.slice A0_5 l0_5.length c0_5)] 26 (0, 0))) ∧ Aside0 (wc.heap[gb288]? = some (.cells #[.int .i64 t275, .int .i64 t276, .int .i64 t277, (.slice Ao31 t278.length co31), (.slice Ao32 t281.length co32), (.slice Ao33 t284.length co33)] 30 (0, 0))) ∧ Aside0 (wc.heap[gb301]? = some (.cells #[.int .i64 t289, .int .i64 t290, .int .i64 t291, (.slice Ao40 t292.length co40), (.slice Ao41 t295.length co41), (.slice Ao42 t298.length co42)] 30 (0, 0))) ∧ Aside0 (wc.heap[gb318]? = some (.cells #[.int .i64 t305, .int .i64 t306, .int .i64 t307, (.slice Ao52 t308.length co52), (.slice Ao53 t311.length co53), (.slice Ao54 t314.length co54)] 30 (0, 0))) ∧ Aside0 (Below w.heap.size w wc))
   case first =>
    have H := HC16.out
    clear HC16
    replace H := Option.bind_eq_some_iff.mp H
    obtain ⟨t319, A550, H⟩ := H
    replace H : (if t319 = true then (laws_FnExactEmptyBlocks.j0 k l1 t287 t302 t317 (t317 != t287) a0_0 a0_1 a0_2 l0_3 l0_4 l0_5 t275 t276 t277 t278 t281 t284 t289 t290 t291 t292 t295 t298 t305 t306 t307 t308 t311 t314) else (laws_FnExactEmptyBlocks.j0 k l1 t287 t302 t317 true a0_0 a0_1 a0_2 l0_3 l0_4 l0_5 t275 t276 t277 t278 t281 t284 t289 t290 t291 t292 t295 t298 t305 t306 t307 t308 t311 t314)) = some r := H
    have A55 := Aside0.mk A550
    clear A550
    by_cases c56 : t319 = true
    ·subst c56
     have H1 : (laws_FnExactEmptyBlocks.j0 k l1 t287 t302 t317 (t317 != t287) a0_0 a0_1 a0_2 l0_3 l0_4 l0_5 t275 t276 t277 t278 t281 t284 t289 t290 t291 t292 t295 t298 t305 t306 t307 t308 t311 t314) = some r := by rw [if_pos rfl] at H; exact H
     clear H
     have H := H1
     clear H1
     have H' := Aside0.mk H
     clear H
     have hnb57 := NB318_258.out
     have hnc57 := NB258_318.out
     have hnb58 := NB318_288.out
     have hnc58 := NB288_318.out
     have hnb59 := NB318_301.out
     have hnc59 := NB301_318.out
     have hcz60_0 : w47.cell? ⟨gb318, 0, none⟩ = some (.int .i64 0) := (blk_cell BK318.out 0).trans rfl
     have hcz60_1 : w47.cell? ⟨gb318, 1, none⟩ = some (.int .i64 0) := (blk_cell BK318.out 1).trans rfl
     have hcz60_2 : w47.cell? ⟨gb318, 2, none⟩ = some (.int .i64 0) := (blk_cell BK318.out 2).trans rfl
     have hcz60_3 : w47.cell? ⟨gb318, 3, none⟩ = some (.slice none 0 0) := (blk_cell BK318.out 3).trans rfl
     have hcz60_4 : w47.cell? ⟨gb318, 4, none⟩ = some (.slice none 0 0) := (blk_cell BK318.out 4).trans rfl
     have hcz60_5 : w47.cell? ⟨gb318, 5, none⟩ = some (.slice none 0 0) := (blk_cell BK318.out 5).trans rfl
     have hfz60_0 := blk_frozen BK318.out 0
     have hfz60_1 := blk_frozen BK318.out 1
     have hfz60_2 := blk_frozen BK318.out 2
     have hfz60_3 := blk_frozen BK318.out 3
     have hfz60_4 := blk_frozen BK318.out 4
     have hfz60_5 := blk_frozen BK318.out 5
     have hnb61 := NB288_258.out
     have hnc61 := NB258_288.out
     have hnb62 := NB288_301.out
     have hnc62 := NB301_288.out
     have hcz63_0 : w47.cell? ⟨gb288, 0, none⟩ = some (.int .i64 t275) := (blk_cell BK288.out 0).trans rfl
     have hcz63_1 : w47.cell? ⟨gb288, 1, none⟩ = some (.int .i64 t276) := (blk_cell BK288.out 1).trans rfl
     have hcz63_2 : w47.cell? ⟨gb288, 2, none⟩ = some (.int .i64 t277) := (blk_cell BK288.out 2).trans rfl
     have hcz63_3 : w47.cell? ⟨gb288, 3, none⟩ = some (.slice Ao31 t278.length co31) := (blk_cell BK288.out 3).trans rfl
     have hcz63_4 : w47.cell? ⟨gb288, 4, none⟩ = some (.slice Ao32 t281.length co32) := (blk_cell BK288.out 4).trans rfl
     have hcz63_5 : w47.cell? ⟨gb288, 5, none⟩ = some (.slice Ao33 t284.length co33) := (blk_cell BK288.out 5).trans rfl
     have hfz63_0 := blk_frozen BK288.out 0
     have hfz63_1 := blk_frozen BK288.out 1
     have hfz63_2 := blk_frozen BK288.out 2
     have hfz63_3 := blk_frozen BK288.out 3
     have hfz63_4 := blk_frozen BK288.out 4
     have hfz63_5 := blk_frozen BK288.out 5
     go_wp2_with (first | ((with_reducible refine gate_callee (f := 11) rfl ?_); refine gl_ (some 45) Try.func11 #[.agg #[.int .i64 t305, .int .i64 t306, .int .i64 t307, .slice Ao52 t308.length co52, .slice Ao53 t311.length co53, .slice Ao54 t314.length co54], .agg #[.int .i64 t275, .int .i64 t276, .int .i64 t277, .slice Ao31 t278.length co31, .slice Ao32 t281.length co32, .slice Ao33 t284.length co33]] rfl rfl rfl ?_; (with_reducible refine (laws_eqModel.calls k t305 t306 t307 _ _ t308 _ _ t311 _ _ t314 t275 t276 t277 _ _ t278 _ _ t281 _ _ t284 true _ ?side1 ?side2 ?side3 ?side4 ?side5 ?side6 ?side7 ?side8 ?side9 ?side10 ?side11 ?side12 A55.out).mono ?_); (case side1 => exact (Kd.R_reads' (Kd.R_s HO310 BK318)).2.2); (case side2 => exact (Kd.R_reads' HO310.out).2.1); (case side3 => exact (Kd.R_reads' (Kd.R_s HO313 BK318)).2.2); (case side4 => exact (Kd.R_reads' HO313.out).2.1); (case side5 => exact (Kd.R_reads' (Kd.R_s HO316 BK318)).2.2); (case side6 => exact (Kd.R_reads' HO316.out).2.1); (case side7 => exact (Kd.R_reads' (Kd.R_s HO280 BK318)).2.2); (case side8 => exact (Kd.R_reads' HO280.out).2.1); (case side9 => exact (Kd.R_reads' (Kd.R_s HO283 BK318)).2.2); (case side10 => exact (Kd.R_reads' HO283.out).2.1); (case side11 => exact (Kd.R_reads' (Kd.R_s HO286 BK318)).2.2); (case side12 => exact (Kd.R_reads' HO286.out).2.1); rintro e w64 ⟨rfl, hb⟩; refine ⟨_, rfl, ?_⟩; replace HO280 := Kd.R_sb HO280 BK318 hb; replace HO283 := Kd.R_sb HO283 BK318 hb; replace HO286 := Kd.R_sb HO286 BK318 hb; replace HO294 := Kd.R_sb HO294 BK318 hb; replace HO297 := Kd.R_sb HO297 BK318 hb; replace HO300 := Kd.R_sb HO300 BK318 hb; replace HO304 := Kd.R_sb HO304 BK318 hb; replace HO310 := Kd.R_sb HO310 BK318 hb; replace HO313 := Kd.R_sb HO313 BK318 hb; replace HO316 := Kd.R_sb HO316 BK318 hb; replace BK258 := kfb_ BK258 NB258_318 hb; replace BK288 := kfb_ BK288 NB288_318 hb; replace BK301 := kfb_ BK301 NB301_318 hb; replace HB := hbs_ HB hb; replace BK318 := Aside0.mk (blk_below (g := gb318) (o := .cells #[.int .i64 t305, .int .i64 t306, .int .i64 t307, .slice Ao52 t308.length co52, .slice Ao53 t311.length co53, .slice Ao54 t314.length co54] 30 (0, 0)) (kpq_ (kputs BK318 [(0, .int .i64 t305), (1, .int .i64 t306), (2, .int .i64 t307), (3, .slice Ao52 t308.length co52), (4, .slice Ao53 t311.length co53), (5, .slice Ao54 t314.length co54)])) hb); (try clear hb); (try clear hb2); (try clear hk); (try clear hi)))
     go_meet
     case rel => exact ⟨_, ((t317 != t287)), (by first | rfl | (simp; done) | (simp [*]; done)), H', ⟨by first | omega | exact Nat.le_refl _⟩, ⟨Kd.R_pp (Kd.R_mono HO304.out (fun _ hk => ⟨hk.1.1.1.1.1.1.1.1.2, ⟨hk.1.1.1.1.1.1.1.2, ⟨hk.1.1.1.1.1.1.2, ⟨hk.1.1.1.1.1.2, ⟨hk.1.1.1.1.2, ⟨hk.1.1.1.2, ⟨hk.1.1.2, ⟨hk.1.2, hk.2⟩⟩⟩⟩⟩⟩⟩⟩))⟩, ⟨Kd.R_pp (Kd.R_mono HO280.out (fun _ hk => ⟨hk.1.1.1.2, ⟨hk.1.1.1.1.1.1.1.1.1.1.1.1, ⟨hk.1.1.1.1.1.1.1.1.1.1.1.2, ⟨hk.1.1.1.1.1.1.2, ⟨hk.1.1.1.1.1.2, ⟨hk.1.1.1.1.2, ⟨hk.1.1.2, ⟨hk.1.2, hk.2⟩⟩⟩⟩⟩⟩⟩⟩))⟩, ⟨Kd.R_pp (Kd.R_mono HO283.out (fun _ hk => ⟨hk.1.1.1.2, ⟨hk.1.1.1.1.1.1.1.1.1.1.1.1, ⟨hk.1.1.1.1.1.1.1.1.1.1.1.2, ⟨hk.1.1.1.1.1.1.2, ⟨hk.1.1.1.1.1.2, ⟨hk.1.1.1.1.2, ⟨hk.1.1.2, ⟨hk.1.2, hk.2⟩⟩⟩⟩⟩⟩⟩⟩))⟩, ⟨Kd.R_pp (Kd.R_mono HO286.out (fun _ hk => ⟨hk.1.1.1.2, ⟨hk.1.1.1.1.1.1.1.1.1.1.1.1, ⟨hk.1.1.1.1.1.1.1.1.1.1.1.2, ⟨hk.1.1.1.1.1.1.2, ⟨hk.1.1.1.1.1.2, ⟨hk.1.1.1.1.2, ⟨hk.1.1.2, ⟨hk.1.2, hk.2⟩⟩⟩⟩⟩⟩⟩⟩))⟩, ⟨Kd.R_pp (Kd.R_mono HO294.out (fun _ hk => ⟨hk.1.1.1.2, ⟨hk.1.1.1.1.1.1.2, ⟨hk.1.1.1.1.1.2, ⟨hk.1.1.1.1.2, ⟨hk.1.1.1.1.1.1.1.1, ⟨hk.1.1.1.1.1.1.1.2, ⟨hk.1.1.2, ⟨hk.1.2, hk.2⟩⟩⟩⟩⟩⟩⟩⟩))⟩, ⟨Kd.R_pp (Kd.R_mono HO297.out (fun _ hk => ⟨hk.1.1.1.2, ⟨hk.1.1.1.1.1.1.2, ⟨hk.1.1.1.1.1.2, ⟨hk.1.1.1.1.2, ⟨hk.1.1.1.1.1.1.1.1, ⟨hk.1.1.1.1.1.1.1.2, ⟨hk.1.1.2, ⟨hk.1.2, hk.2⟩⟩⟩⟩⟩⟩⟩⟩))⟩, ⟨Kd.R_pp (Kd.R_mono HO300.out (fun _ hk => ⟨hk.1.1.1.2, ⟨hk.1.1.1.1.1.1.2, ⟨hk.1.1.1.1.1.2, ⟨hk.1.1.1.1.2, ⟨hk.1.1.1.1.1.1.1.1, ⟨hk.1.1.1.1.1.1.1.2, ⟨hk.1.1.2, ⟨hk.1.2, hk.2⟩⟩⟩⟩⟩⟩⟩⟩))⟩, ⟨Kd.R_pp (Kd.R_mono HO310.out (fun _ hk => ⟨hk.2, ⟨hk.1.1.1.1.1.1.2, ⟨hk.1.1.1.1.1.2, ⟨hk.1.1.1.1.2, ⟨hk.1.1.1.2, ⟨hk.1.1.2, ⟨hk.1.2, ⟨hk.1.1.1.1.1.1.1.1, hk.1.1.1.1.1.1.1.2⟩⟩⟩⟩⟩⟩⟩⟩))⟩, ⟨Kd.R_pp (Kd.R_mono HO313.out (fun _ hk => ⟨hk.2, ⟨hk.1.1.1.1.1.1.2, ⟨hk.1.1.1.1.1.2, ⟨hk.1.1.1.1.2, ⟨hk.1.1.1.2, ⟨hk.1.1.2, ⟨hk.1.2, ⟨hk.1.1.1.1.1.1.1.1, hk.1.1.1.1.1.1.1.2⟩⟩⟩⟩⟩⟩⟩⟩))⟩, ⟨Kd.R_pp (Kd.R_mono HO316.out (fun _ hk => ⟨hk.2, ⟨hk.1.1.1.1.1.1.2, ⟨hk.1.1.1.1.1.2, ⟨hk.1.1.1.1.2, ⟨hk.1.1.1.2, ⟨hk.1.1.2, ⟨hk.1.2, ⟨hk.1.1.1.1.1.1.1.1, hk.1.1.1.1.1.1.1.2⟩⟩⟩⟩⟩⟩⟩⟩))⟩, ⟨kp_ BK258⟩, ⟨kp_ BK288⟩, ⟨kp_ BK301⟩, ⟨kp_ BK318⟩, ⟨hb_ HB⟩⟩
    ·replace c56 := Bool.eq_false_iff.mpr c56
     subst c56
     have H1 : (laws_FnExactEmptyBlocks.j0 k l1 t287 t302 t317 true a0_0 a0_1 a0_2 l0_3 l0_4 l0_5 t275 t276 t277 t278 t281 t284 t289 t290 t291 t292 t295 t298 t305 t306 t307 t308 t311 t314) = some r := by rw [if_neg (show ¬ (false = true) by decide)] at H; exact H
     clear H
     have H := H1
     clear H1
     have H' := Aside0.mk H
     clear H
     have hnb65 := NB318_258.out
     have hnc65 := NB258_318.out
     have hnb66 := NB318_288.out
     have hnc66 := NB288_318.out
     have hnb67 := NB318_301.out
     have hnc67 := NB301_318.out
     have hcz68_0 : w47.cell? ⟨gb318, 0, none⟩ = some (.int .i64 0) := (blk_cell BK318.out 0).trans rfl
     have hcz68_1 : w47.cell? ⟨gb318, 1, none⟩ = some (.int .i64 0) := (blk_cell BK318.out 1).trans rfl
     have hcz68_2 : w47.cell? ⟨gb318, 2, none⟩ = some (.int .i64 0) := (blk_cell BK318.out 2).trans rfl
     have hcz68_3 : w47.cell? ⟨gb318, 3, none⟩ = some (.slice none 0 0) := (blk_cell BK318.out 3).trans rfl
     have hcz68_4 : w47.cell? ⟨gb318, 4, none⟩ = some (.slice none 0 0) := (blk_cell BK318.out 4).trans rfl
     have hcz68_5 : w47.cell? ⟨gb318, 5, none⟩ = some (.slice none 0 0) := (blk_cell BK318.out 5).trans rfl
     have hfz68_0 := blk_frozen BK318.out 0
     have hfz68_1 := blk_frozen BK318.out 1
     have hfz68_2 := blk_frozen BK318.out 2
     have hfz68_3 := blk_frozen BK318.out 3
     have hfz68_4 := blk_frozen BK318.out 4
     have hfz68_5 := blk_frozen BK318.out 5
     have hnb69 := NB288_258.out
     have hnc69 := NB258_288.out
     have hnb70 := NB288_301.out
     have hnc70 := NB301_288.out
     have hcz71_0 : w47.cell? ⟨gb288, 0, none⟩ = some (.int .i64 t275) := (blk_cell BK288.out 0).trans rfl
     have hcz71_1 : w47.cell? ⟨gb288, 1, none⟩ = some (.int .i64 t276) := (blk_cell BK288.out 1).trans rfl
     have hcz71_2 : w47.cell? ⟨gb288, 2, none⟩ = some (.int .i64 t277) := (blk_cell BK288.out 2).trans rfl
     have hcz71_3 : w47.cell? ⟨gb288, 3, none⟩ = some (.slice Ao31 t278.length co31) := (blk_cell BK288.out 3).trans rfl
     have hcz71_4 : w47.cell? ⟨gb288, 4, none⟩ = some (.slice Ao32 t281.length co32) := (blk_cell BK288.out 4).trans rfl
     have hcz71_5 : w47.cell? ⟨gb288, 5, none⟩ = some (.slice Ao33 t284.length co33) := (blk_cell BK288.out 5).trans rfl
     have hfz71_0 := blk_frozen BK288.out 0
     have hfz71_1 := blk_frozen BK288.out 1
     have hfz71_2 := blk_frozen BK288.out 2
     have hfz71_3 := blk_frozen BK288.out 3
     have hfz71_4 := blk_frozen BK288.out 4
     have hfz71_5 := blk_frozen BK288.out 5
     go_wp2_with (first | ((with_reducible refine gate_callee (f := 11) rfl ?_); refine gl_ (some 45) Try.func11 #[.agg #[.int .i64 t305, .int .i64 t306, .int .i64 t307, .slice Ao52 t308.length co52, .slice Ao53 t311.length co53, .slice Ao54 t314.length co54], .agg #[.int .i64 t275, .int .i64 t276, .int .i64 t277, .slice Ao31 t278.length co31, .slice Ao32 t281.length co32, .slice Ao33 t284.length co33]] rfl rfl rfl ?_; (with_reducible refine (laws_eqModel.calls k t305 t306 t307 _ _ t308 _ _ t311 _ _ t314 t275 t276 t277 _ _ t278 _ _ t281 _ _ t284 false _ ?side1 ?side2 ?side3 ?side4 ?side5 ?side6 ?side7 ?side8 ?side9 ?side10 ?side11 ?side12 A55.out).mono ?_); (case side1 => exact (Kd.R_reads' (Kd.R_s HO310 BK318)).2.2); (case side2 => exact (Kd.R_reads' HO310.out).2.1); (case side3 => exact (Kd.R_reads' (Kd.R_s HO313 BK318)).2.2); (case side4 => exact (Kd.R_reads' HO313.out).2.1); (case side5 => exact (Kd.R_reads' (Kd.R_s HO316 BK318)).2.2); (case side6 => exact (Kd.R_reads' HO316.out).2.1); (case side7 => exact (Kd.R_reads' (Kd.R_s HO280 BK318)).2.2); (case side8 => exact (Kd.R_reads' HO280.out).2.1); (case side9 => exact (Kd.R_reads' (Kd.R_s HO283 BK318)).2.2); (case side10 => exact (Kd.R_reads' HO283.out).2.1); (case side11 => exact (Kd.R_reads' (Kd.R_s HO286 BK318)).2.2); (case side12 => exact (Kd.R_reads' HO286.out).2.1); rintro e w72 ⟨rfl, hb⟩; refine ⟨_, rfl, ?_⟩; replace HO280 := Kd.R_sb HO280 BK318 hb; replace HO283 := Kd.R_sb HO283 BK318 hb; replace HO286 := Kd.R_sb HO286 BK318 hb; replace HO294 := Kd.R_sb HO294 BK318 hb; replace HO297 := Kd.R_sb HO297 BK318 hb; replace HO300 := Kd.R_sb HO300 BK318 hb; replace HO304 := Kd.R_sb HO304 BK318 hb; replace HO310 := Kd.R_sb HO310 BK318 hb; replace HO313 := Kd.R_sb HO313 BK318 hb; replace HO316 := Kd.R_sb HO316 BK318 hb; replace BK258 := kfb_ BK258 NB258_318 hb; replace BK288 := kfb_ BK288 NB288_318 hb; replace BK301 := kfb_ BK301 NB301_318 hb; replace HB := hbs_ HB hb; replace BK318 := Aside0.mk (blk_below (g := gb318) (o := .cells #[.int .i64 t305, .int .i64 t306, .int .i64 t307, .slice Ao52 t308.length co52, .slice Ao53 t311.length co53, .slice Ao54 t314.length co54] 30 (0, 0)) (kpq_ (kputs BK318 [(0, .int .i64 t305), (1, .int .i64 t306), (2, .int .i64 t307), (3, .slice Ao52 t308.length co52), (4, .slice Ao53 t311.length co53), (5, .slice Ao54 t314.length co54)])) hb); (try clear hb); (try clear hb2); (try clear hk); (try clear hi)))
     go_meet
     case rel => exact ⟨_, (true), (by first | rfl | (simp; done) | (simp [*]; done)), H', ⟨by first | omega | exact Nat.le_refl _⟩, ⟨Kd.R_pp (Kd.R_mono HO304.out (fun _ hk => ⟨hk.1.1.1.1.1.1.1.1.2, ⟨hk.1.1.1.1.1.1.1.2, ⟨hk.1.1.1.1.1.1.2, ⟨hk.1.1.1.1.1.2, ⟨hk.1.1.1.1.2, ⟨hk.1.1.1.2, ⟨hk.1.1.2, ⟨hk.1.2, hk.2⟩⟩⟩⟩⟩⟩⟩⟩))⟩, ⟨Kd.R_pp (Kd.R_mono HO280.out (fun _ hk => ⟨hk.1.1.1.2, ⟨hk.1.1.1.1.1.1.1.1.1.1.1.1, ⟨hk.1.1.1.1.1.1.1.1.1.1.1.2, ⟨hk.1.1.1.1.1.1.2, ⟨hk.1.1.1.1.1.2, ⟨hk.1.1.1.1.2, ⟨hk.1.1.2, ⟨hk.1.2, hk.2⟩⟩⟩⟩⟩⟩⟩⟩))⟩, ⟨Kd.R_pp (Kd.R_mono HO283.out (fun _ hk => ⟨hk.1.1.1.2, ⟨hk.1.1.1.1.1.1.1.1.1.1.1.1, ⟨hk.1.1.1.1.1.1.1.1.1.1.1.2, ⟨hk.1.1.1.1.1.1.2, ⟨hk.1.1.1.1.1.2, ⟨hk.1.1.1.1.2, ⟨hk.1.1.2, ⟨hk.1.2, hk.2⟩⟩⟩⟩⟩⟩⟩⟩))⟩, ⟨Kd.R_pp (Kd.R_mono HO286.out (fun _ hk => ⟨hk.1.1.1.2, ⟨hk.1.1.1.1.1.1.1.1.1.1.1.1, ⟨hk.1.1.1.1.1.1.1.1.1.1.1.2, ⟨hk.1.1.1.1.1.1.2, ⟨hk.1.1.1.1.1.2, ⟨hk.1.1.1.1.2, ⟨hk.1.1.2, ⟨hk.1.2, hk.2⟩⟩⟩⟩⟩⟩⟩⟩))⟩, ⟨Kd.R_pp (Kd.R_mono HO294.out (fun _ hk => ⟨hk.1.1.1.2, ⟨hk.1.1.1.1.1.1.2, ⟨hk.1.1.1.1.1.2, ⟨hk.1.1.1.1.2, ⟨hk.1.1.1.1.1.1.1.1, ⟨hk.1.1.1.1.1.1.1.2, ⟨hk.1.1.2, ⟨hk.1.2, hk.2⟩⟩⟩⟩⟩⟩⟩⟩))⟩, ⟨Kd.R_pp (Kd.R_mono HO297.out (fun _ hk => ⟨hk.1.1.1.2, ⟨hk.1.1.1.1.1.1.2, ⟨hk.1.1.1.1.1.2, ⟨hk.1.1.1.1.2, ⟨hk.1.1.1.1.1.1.1.1, ⟨hk.1.1.1.1.1.1.1.2, ⟨hk.1.1.2, ⟨hk.1.2, hk.2⟩⟩⟩⟩⟩⟩⟩⟩))⟩, ⟨Kd.R_pp (Kd.R_mono HO300.out (fun _ hk => ⟨hk.1.1.1.2, ⟨hk.1.1.1.1.1.1.2, ⟨hk.1.1.1.1.1.2, ⟨hk.1.1.1.1.2, ⟨hk.1.1.1.1.1.1.1.1, ⟨hk.1.1.1.1.1.1.1.2, ⟨hk.1.1.2, ⟨hk.1.2, hk.2⟩⟩⟩⟩⟩⟩⟩⟩))⟩, ⟨Kd.R_pp (Kd.R_mono HO310.out (fun _ hk => ⟨hk.2, ⟨hk.1.1.1.1.1.1.2, ⟨hk.1.1.1.1.1.2, ⟨hk.1.1.1.1.2, ⟨hk.1.1.1.2, ⟨hk.1.1.2, ⟨hk.1.2, ⟨hk.1.1.1.1.1.1.1.1, hk.1.1.1.1.1.1.1.2⟩⟩⟩⟩⟩⟩⟩⟩))⟩, ⟨Kd.R_pp (Kd.R_mono HO313.out (fun _ hk => ⟨hk.2, ⟨hk.1.1.1.1.1.1.2, ⟨hk.1.1.1.1.1.2, ⟨hk.1.1.1.1.2, ⟨hk.1.1.1.2, ⟨hk.1.1.2, ⟨hk.1.2, ⟨hk.1.1.1.1.1.1.1.1, hk.1.1.1.1.1.1.1.2⟩⟩⟩⟩⟩⟩⟩⟩))⟩, ⟨Kd.R_pp (Kd.R_mono HO316.out (fun _ hk => ⟨hk.2, ⟨hk.1.1.1.1.1.1.2, ⟨hk.1.1.1.1.1.2, ⟨hk.1.1.1.1.2, ⟨hk.1.1.1.2, ⟨hk.1.1.2, ⟨hk.1.2, ⟨hk.1.1.1.1.1.1.1.1, hk.1.1.1.1.1.1.1.2⟩⟩⟩⟩⟩⟩⟩⟩))⟩, ⟨kp_ BK258⟩, ⟨kp_ BK288⟩, ⟨kp_ BK301⟩, ⟨kp_ BK318⟩, ⟨hb_ HB⟩⟩
   case rest =>
    clear HC16
    (try clear c1); (try clear c2); (try clear p2); (try clear c3); (try clear c3b0); (try clear c3b1); (try clear c4); (try clear c5); (try clear c6); (try clear c6b0); (try clear c7); (try clear c9); (try clear c11); (try clear c14); (try clear c15); (try clear c16); (try clear c29); (try clear c37); (try clear c38); (try clear c48); (try clear c49); (try clear c50); (try clear c56); (try clear c57); (try clear c58); (try clear c59); (try clear c61); (try clear c62); (try clear c65); (try clear c66); (try clear c67); (try clear c69); (try clear c70); (try clear hcz18_0); (try clear hcz18_1); (try clear hcz18_2); (try clear hcz18_3); (try clear hcz18_4); (try clear hcz18_5); (try clear hcz20_0); (try clear hcz20_1); (try clear hcz20_2); (try clear hcz20_3); (try clear hcz20_4); (try clear hcz20_5); (try clear hcz30_0); (try clear hcz30_1); (try clear hcz30_2); (try clear hcz30_3); (try clear hcz30_4); (try clear hcz30_5); (try clear hcz34_0); (try clear hcz34_1); (try clear hcz34_2); (try clear hcz34_3); (try clear hcz34_4); (try clear hcz34_5); (try clear hcz39_0); (try clear hcz39_1); (try clear hcz39_2); (try clear hcz39_3); (try clear hcz39_4); (try clear hcz39_5); (try clear hcz44_0); (try clear hcz44_1); (try clear hcz44_2); (try clear hcz44_3); (try clear hcz44_4); (try clear hcz44_5); (try clear hcz51_0); (try clear hcz51_1); (try clear hcz51_2); (try clear hcz51_3); (try clear hcz51_4); (try clear hcz51_5); (try clear hfz18_0); (try clear hfz18_1); (try clear hfz18_2); (try clear hfz18_3); (try clear hfz18_4); (try clear hfz18_5); (try clear hfz20_0); (try clear hfz20_1); (try clear hfz20_2); (try clear hfz20_3); (try clear hfz20_4); (try clear hfz20_5); (try clear hfz30_0); (try clear hfz30_1); (try clear hfz30_2); (try clear hfz30_3); (try clear hfz30_4); (try clear hfz30_5); (try clear hfz34_0); (try clear hfz34_1); (try clear hfz34_2); (try clear hfz34_3); (try clear hfz34_4); (try clear hfz34_5); (try clear hfz39_0); (try clear hfz39_1); (try clear hfz39_2); (try clear hfz39_3); (try clear hfz39_4); (try clear hfz39_5); (try clear hfz44_0); (try clear hfz44_1); (try clear hfz44_2); (try clear hfz44_3); (try clear hfz44_4); (try clear hfz44_5); (try clear hfz51_0); (try clear hfz51_1); (try clear hfz51_2); (try clear hfz51_3); (try clear hfz51_4); (try clear hfz51_5)
    obtain ⟨kq, x51_15, rfl, HA, HJ15, HO_9, HO_289003, HO_289004, HO_289005, HO_302003, HO_302004, HO_302005, HO_319003, HO_319004, HO_319005, BK258, BK288, BK301, BK318, HB⟩ := hcut
    cases kq with
    | zero => exact absurd HA.out (by simp [laws_FnExactEmptyBlocks.j0])
    | succ kj15 =>
     have H := HA.out
     clear HA
     simp only [laws_FnExactEmptyBlocks.j0] at H
     by_cases c73 : x51_15 = true
     ·subst c73
      have H1 : (some false) = some r := by rw [if_pos rfl] at H; exact H
      clear H
      have H := H1
      clear H1
      obtain rfl := Option.some.inj H
      go_wp2
      go_ret
      exact ⟨by first | rfl | (simp [errW_none, errW_some] <;> rfl) | (simp [*, errW_none, errW_some] <;> rfl), hb_ HB⟩
     ·replace c73 := Bool.eq_false_iff.mpr c73
      subst c73
      have H1 : ((laws_toModel.f kj15 a0_0 a0_1 a0_2 l0_3 l0_4 l0_5).bind fun bt320 => ((laws_eqModel.f kj15 t289 t290 t291 t292 t295 t298 bt320.1 bt320.2.1 bt320.2.2.1 bt320.2.2.2.1 bt320.2.2.2.2.1 bt320.2.2.2.2.2).bind fun t332 => (if t332 = true then ((laws_toIntS.f kj15 l1).bind fun t333 => ((laws_eqIntS.f kj15 t302 t333).bind fun t336 => (if t336 = true then ((laws_markModel.f kj15 t289 t290 t291 t292 t295 t298 1).bind fun bt337 => ((laws_markIntS.f kj15 t302 bt337.1).bind fun bt341 => (if bt341.1 < 0 then (laws_FnExactEmptyBlocks.j1 kj15 l1 t287 true a0_0 a0_1 a0_2 l0_3 l0_4 l0_5 t275 t276 t277 t278 t281 t284 t305 t306 t307 t308 t311 t314) else ((laws_eqModel.f kj15 t305 t306 t307 t308 t311 t314 t275 t276 t277 t278 t281 t284).bind fun t343 => (if t343 = true then (laws_FnExactEmptyBlocks.j1 kj15 l1 t287 (t317 != t287) a0_0 a0_1 a0_2 l0_3 l0_4 l0_5 t275 t276 t277 t278 t281 t284 t305 t306 t307 t308 t311 t314) else (laws_FnExactEmptyBlocks.j1 kj15 l1 t287 true a0_0 a0_1 a0_2 l0_3 l0_4 l0_5 t275 t276 t277 t278 t281 t284 t305 t306 t307 t308 t311 t314)))))) else (some false)))) else (some false)))) = some r := by rw [if_neg (show ¬ (false = true) by decide)] at H; exact H
      clear H
      have H := H1
      clear H1
      replace H := Option.bind_eq_some_iff.mp H
      obtain ⟨⟨t320, t321, t322, t323, t326, t329⟩, A740, H⟩ := H
      replace H : ((laws_eqModel.f kj15 t289 t290 t291 t292 t295 t298 t320 t321 t322 t323 t326 t329).bind fun t332 => (if t332 = true then ((laws_toIntS.f kj15 l1).bind fun t333 => ((laws_eqIntS.f kj15 t302 t333).bind fun t336 => (if t336 = true then ((laws_markModel.f kj15 t289 t290 t291 t292 t295 t298 1).bind fun bt337 => ((laws_markIntS.f kj15 t302 bt337.1).bind fun bt341 => (if bt341.1 < 0 then (laws_FnExactEmptyBlocks.j1 kj15 l1 t287 true a0_0 a0_1 a0_2 l0_3 l0_4 l0_5 t275 t276 t277 t278 t281 t284 t305 t306 t307 t308 t311 t314) else ((laws_eqModel.f kj15 t305 t306 t307 t308 t311 t314 t275 t276 t277 t278 t281 t284).bind fun t343 => (if t343 = true then (laws_FnExactEmptyBlocks.j1 kj15 l1 t287 (t317 != t287) a0_0 a0_1 a0_2 l0_3 l0_4 l0_5 t275 t276 t277 t278 t281 t284 t305 t306 t307 t308 t311 t314) else (laws_FnExactEmptyBlocks.j1 kj15 l1 t287 true a0_0 a0_1 a0_2 l0_3 l0_4 l0_5 t275 t276 t277 t278 t281 t284 t305 t306 t307 t308 t311 t314)))))) else (some false)))) else (some false))) = some r := H
      have A74 := Aside0.mk A740
      clear A740
      replace H := Option.bind_eq_some_iff.mp H
      obtain ⟨t332, A750, H⟩ := H
      replace H : (if t332 = true then ((laws_toIntS.f kj15 l1).bind fun t333 => ((laws_eqIntS.f kj15 t302 t333).bind fun t336 => (if t336 = true then ((laws_markModel.f kj15 t289 t290 t291 t292 t295 t298 1).bind fun bt337 => ((laws_markIntS.f kj15 t302 bt337.1).bind fun bt341 => (if bt341.1 < 0 then (laws_FnExactEmptyBlocks.j1 kj15 l1 t287 true a0_0 a0_1 a0_2 l0_3 l0_4 l0_5 t275 t276 t277 t278 t281 t284 t305 t306 t307 t308 t311 t314) else ((laws_eqModel.f kj15 t305 t306 t307 t308 t311 t314 t275 t276 t277 t278 t281 t284).bind fun t343 => (if t343 = true then (laws_FnExactEmptyBlocks.j1 kj15 l1 t287 (t317 != t287) a0_0 a0_1 a0_2 l0_3 l0_4 l0_5 t275 t276 t277 t278 t281 t284 t305 t306 t307 t308 t311 t314) else (laws_FnExactEmptyBlocks.j1 kj15 l1 t287 true a0_0 a0_1 a0_2 l0_3 l0_4 l0_5 t275 t276 t277 t278 t281 t284 t305 t306 t307 t308 t311 t314)))))) else (some false)))) else (some false)) = some r := H
      have A75 := Aside0.mk A750
      clear A750
      by_cases c76 : t332 = true
      ·subst c76
       have H1 : ((laws_toIntS.f kj15 l1).bind fun t333 => ((laws_eqIntS.f kj15 t302 t333).bind fun t336 => (if t336 = true then ((laws_markModel.f kj15 t289 t290 t291 t292 t295 t298 1).bind fun bt337 => ((laws_markIntS.f kj15 t302 bt337.1).bind fun bt341 => (if bt341.1 < 0 then (laws_FnExactEmptyBlocks.j1 kj15 l1 t287 true a0_0 a0_1 a0_2 l0_3 l0_4 l0_5 t275 t276 t277 t278 t281 t284 t305 t306 t307 t308 t311 t314) else ((laws_eqModel.f kj15 t305 t306 t307 t308 t311 t314 t275 t276 t277 t278 t281 t284).bind fun t343 => (if t343 = true then (laws_FnExactEmptyBlocks.j1 kj15 l1 t287 (t317 != t287) a0_0 a0_1 a0_2 l0_3 l0_4 l0_5 t275 t276 t277 t278 t281 t284 t305 t306 t307 t308 t311 t314) else (laws_FnExactEmptyBlocks.j1 kj15 l1 t287 true a0_0 a0_1 a0_2 l0_3 l0_4 l0_5 t275 t276 t277 t278 t281 t284 t305 t306 t307 t308 t311 t314)))))) else (some false)))) = some r := by rw [if_pos rfl] at H; exact H
       clear H
       have H := H1
       clear H1
       replace H := Option.bind_eq_some_iff.mp H
       obtain ⟨t333, A770, H⟩ := H
       replace H : ((laws_eqIntS.f kj15 t302 t333).bind fun t336 => (if t336 = true then ((laws_markModel.f kj15 t289 t290 t291 t292 t295 t298 1).bind fun bt337 => ((laws_markIntS.f kj15 t302 bt337.1).bind fun bt341 => (if bt341.1 < 0 then (laws_FnExactEmptyBlocks.j1 kj15 l1 t287 true a0_0 a0_1 a0_2 l0_3 l0_4 l0_5 t275 t276 t277 t278 t281 t284 t305 t306 t307 t308 t311 t314) else ((laws_eqModel.f kj15 t305 t306 t307 t308 t311 t314 t275 t276 t277 t278 t281 t284).bind fun t343 => (if t343 = true then (laws_FnExactEmptyBlocks.j1 kj15 l1 t287 (t317 != t287) a0_0 a0_1 a0_2 l0_3 l0_4 l0_5 t275 t276 t277 t278 t281 t284 t305 t306 t307 t308 t311 t314) else (laws_FnExactEmptyBlocks.j1 kj15 l1 t287 true a0_0 a0_1 a0_2 l0_3 l0_4 l0_5 t275 t276 t277 t278 t281 t284 t305 t306 t307 t308 t311 t314)))))) else (some false))) = some r := H
       have A77 := Aside0.mk A770
       clear A770
       replace H := Option.bind_eq_some_iff.mp H
       obtain ⟨t336, A780, H⟩ := H
       replace H : (if t336 = true then ((laws_markModel.f kj15 t289 t290 t291 t292 t295 t298 1).bind fun bt337 => ((laws_markIntS.f kj15 t302 bt337.1).bind fun bt341 => (if bt341.1 < 0 then (laws_FnExactEmptyBlocks.j1 kj15 l1 t287 true a0_0 a0_1 a0_2 l0_3 l0_4 l0_5 t275 t276 t277 t278 t281 t284 t305 t306 t307 t308 t311 t314) else ((laws_eqModel.f kj15 t305 t306 t307 t308 t311 t314 t275 t276 t277 t278 t281 t284).bind fun t343 => (if t343 = true then (laws_FnExactEmptyBlocks.j1 kj15 l1 t287 (t317 != t287) a0_0 a0_1 a0_2 l0_3 l0_4 l0_5 t275 t276 t277 t278 t281 t284 t305 t306 t307 t308 t311 t314) else (laws_FnExactEmptyBlocks.j1 kj15 l1 t287 true a0_0 a0_1 a0_2 l0_3 l0_4 l0_5 t275 t276 t277 t278 t281 t284 t305 t306 t307 t308 t311 t314)))))) else (some false)) = some r := H
       have A78 := Aside0.mk A780
       clear A780
       by_cases c79 : t336 = true
       ·subst c79
        have H1 : ((laws_markModel.f kj15 t289 t290 t291 t292 t295 t298 1).bind fun bt337 => ((laws_markIntS.f kj15 t302 bt337.1).bind fun bt341 => (if bt341.1 < 0 then (laws_FnExactEmptyBlocks.j1 kj15 l1 t287 true a0_0 a0_1 a0_2 l0_3 l0_4 l0_5 t275 t276 t277 t278 t281 t284 t305 t306 t307 t308 t311 t314) else ((laws_eqModel.f kj15 t305 t306 t307 t308 t311 t314 t275 t276 t277 t278 t281 t284).bind fun t343 => (if t343 = true then (laws_FnExactEmptyBlocks.j1 kj15 l1 t287 (t317 != t287) a0_0 a0_1 a0_2 l0_3 l0_4 l0_5 t275 t276 t277 t278 t281 t284 t305 t306 t307 t308 t311 t314) else (laws_FnExactEmptyBlocks.j1 kj15 l1 t287 true a0_0 a0_1 a0_2 l0_3 l0_4 l0_5 t275 t276 t277 t278 t281 t284 t305 t306 t307 t308 t311 t314)))))) = some r := by rw [if_pos rfl] at H; exact H
        clear H
        have H := H1
        clear H1
        replace H := Option.bind_eq_some_iff.mp H
        obtain ⟨⟨t337, t338, t339, t340⟩, A800, H⟩ := H
        replace H : ((laws_markIntS.f kj15 t302 t337).bind fun bt341 => (if bt341.1 < 0 then (laws_FnExactEmptyBlocks.j1 kj15 l1 t287 true a0_0 a0_1 a0_2 l0_3 l0_4 l0_5 t275 t276 t277 t278 t281 t284 t305 t306 t307 t308 t311 t314) else ((laws_eqModel.f kj15 t305 t306 t307 t308 t311 t314 t275 t276 t277 t278 t281 t284).bind fun t343 => (if t343 = true then (laws_FnExactEmptyBlocks.j1 kj15 l1 t287 (t317 != t287) a0_0 a0_1 a0_2 l0_3 l0_4 l0_5 t275 t276 t277 t278 t281 t284 t305 t306 t307 t308 t311 t314) else (laws_FnExactEmptyBlocks.j1 kj15 l1 t287 true a0_0 a0_1 a0_2 l0_3 l0_4 l0_5 t275 t276 t277 t278 t281 t284 t305 t306 t307 t308 t311 t314))))) = some r := H
        have A80 := Aside0.mk A800
        clear A800
        replace H := Option.bind_eq_some_iff.mp H
        obtain ⟨⟨t341, t342⟩, A810, H⟩ := H
        replace H : (if t341 < 0 then (laws_FnExactEmptyBlocks.j1 kj15 l1 t287 true a0_0 a0_1 a0_2 l0_3 l0_4 l0_5 t275 t276 t277 t278 t281 t284 t305 t306 t307 t308 t311 t314) else ((laws_eqModel.f kj15 t305 t306 t307 t308 t311 t314 t275 t276 t277 t278 t281 t284).bind fun t343 => (if t343 = true then (laws_FnExactEmptyBlocks.j1 kj15 l1 t287 (t317 != t287) a0_0 a0_1 a0_2 l0_3 l0_4 l0_5 t275 t276 t277 t278 t281 t284 t305 t306 t307 t308 t311 t314) else (laws_FnExactEmptyBlocks.j1 kj15 l1 t287 true a0_0 a0_1 a0_2 l0_3 l0_4 l0_5 t275 t276 t277 t278 t281 t284 t305 t306 t307 t308 t311 t314)))) = some r := H
        have A81 := Aside0.mk A810
        clear A810
        have HC82 := Aside0.mk H
        clear H
        try go_wp2
        have n0_ := Aside0.mk (Kd.R_drew HO_9.out)
        have n1_ := Aside0.mk (Kd.R_drew HO_289003.out)
        have n2_ := Aside0.mk (Kd.R_drew HO_289004.out)
        have n3_ := Aside0.mk (Kd.R_drew HO_289005.out)
        have n4_ := Aside0.mk (Kd.R_drew HO_302003.out)
        have n5_ := Aside0.mk (Kd.R_drew HO_302004.out)
        have n6_ := Aside0.mk (Kd.R_drew HO_302005.out)
        have n7_ := Aside0.mk (Kd.R_drew HO_319003.out)
        have n8_ := Aside0.mk (Kd.R_drew HO_319004.out)
        have n9_ := Aside0.mk (Kd.R_drew HO_319005.out)
        have n10_ := Aside0.mk (blk_drew BK258.out)
        have n11_ := Aside0.mk (blk_drew BK288.out)
        have n12_ := Aside0.mk (blk_drew BK301.out)
        have n13_ := Aside0.mk (blk_drew BK318.out)
        have n14_ := Aside0.mk (below_drew1 HB.out)
        clear HO_9
        clear HO_289003
        clear HO_289004
        clear HO_289005
        clear HO_302003
        clear HO_302004
        clear HO_302005
        clear HO_319003
        clear HO_319004
        clear HO_319005
        clear BK258
        clear BK288
        clear BK301
        clear BK318
        clear HB
        have HO_9 := n0_
        have HO_289003 := n1_
        have HO_289004 := n2_
        have HO_289005 := n3_
        have HO_302003 := n4_
        have HO_302004 := n5_
        have HO_302005 := n6_
        have HO_319003 := n7_
        have HO_319004 := n8_
        have HO_319005 := n9_
        have BK258 := n10_
        have BK288 := n11_
        have BK301 := n12_
        have BK318 := n13_
        have HB := n14_
        clear n0_ n1_ n2_ n3_ n4_ n5_ n6_ n7_ n8_ n9_ n10_ n11_ n12_ n13_ n14_
        refine start_ (n := 5) (S := fun w' => w'.cell? ⟨gb301, 0, none⟩ = some (.int .i64 t289) ∧ w'.cell? ⟨gb301, 1, none⟩ = some (.int .i64 t290) ∧ w'.cell? ⟨gb301, 2, none⟩ = some (.int .i64 t291) ∧ w'.cell? ⟨gb301, 3, none⟩ = some (.slice Ao40 t292.length co40) ∧ w'.cell? ⟨gb301, 4, none⟩ = some (.slice Ao41 t295.length co41) ∧ w'.cell? ⟨gb301, 5, none⟩ = some (.slice Ao42 t298.length co42) ∧ w'.cell? ⟨gb258, 0, none⟩ = some (.int .i64 a0_0) ∧ w'.cell? ⟨gb258, 1, none⟩ = some (.int .i64 a0_1) ∧ w'.cell? ⟨gb258, 2, none⟩ = some (.int .i64 a0_2) ∧ w'.cell? ⟨gb258, 3, none⟩ = some (.slice A0_3 l0_3.length c0_3) ∧ w'.cell? ⟨gb258, 4, none⟩ = some (.slice A0_4 l0_4.length c0_4) ∧ w'.cell? ⟨gb258, 5, none⟩ = some (.slice A0_5 l0_5.length c0_5)) (ds := []) #[false, false, false, false, false] (by kernel_rfl) rfl rfl ⟨(blk_cell BK301.out 0).trans rfl, (blk_cell BK301.out 1).trans rfl, (blk_cell BK301.out 2).trans rfl, (blk_cell BK301.out 3).trans rfl, (blk_cell BK301.out 4).trans rfl, (blk_cell BK301.out 5).trans rfl, (blk_cell BK258.out 0).trans rfl, (blk_cell BK258.out 1).trans rfl, (blk_cell BK258.out 2).trans rfl, (blk_cell BK258.out 3).trans rfl, (blk_cell BK258.out 4).trans rfl, (blk_cell BK258.out 5).trans rfl⟩ (fun hHeld => ?_)
        generalize wc.drew = w83 at HO_9 HO_289003 HO_289004 HO_289005 HO_302003 HO_302004 HO_302005 HO_319003 HO_319004 HO_319005 BK258 BK288 BK301 BK318 HB hHeld ⊢
        refine take_ (i := 0) (N := some 52) (v := ?_) (a' := ?_) #[true, false, false, false, false] rfl rfl (by kernel_rfl) (fun _ _ _ h => h) (Or.inl ⟨by rfl, ?_⟩) hHeld ?_ ?_
        rotate_left
        ·rintro w' ⟨s0, s1, s2, s3, s4, s5, s6, s7, s8, s9, s10, s11⟩
         go_simp
         with_reducible rfl
        rotate_left
        ·simp only [Act.put, List.setIfInBounds_toArray, List.set_cons_zero, List.set_cons_succ, i64_w, i32_w]
         rfl
        refine take_ (i := 1) (N := some 53) (v := ?_) (a' := ?_) #[true, true, false, false, false] rfl rfl (by kernel_rfl) (fun _ _ _ h => h) (Or.inl ⟨by rfl, ?_⟩) hHeld ?_ ?_
        rotate_left
        ·rintro w' ⟨s0, s1, s2, s3, s4, s5, s6, s7, s8, s9, s10, s11⟩
         go_simp
         with_reducible rfl
        rotate_left
        ·simp only [Act.put, List.setIfInBounds_toArray, List.set_cons_zero, List.set_cons_succ, i64_w, i32_w]
         rfl
        refine one_ (i := 2) (N := some 54) #[true, true, true, false, false] rfl rfl (by kernel_rfl) (by decide) (fun K hK => ?_)
        refine goes_ Try.func9 (by kernel_rfl) rfl #[.agg #[.int .i64 a0_0, .int .i64 a0_1, .int .i64 a0_2, .slice A0_3 l0_3.length c0_3, .slice A0_4 l0_4.length c0_4, .slice A0_5 l0_5.length c0_5]] (by rfl) rfl rfl (by (try simp only [List.map_toArray, List.map_cons, List.map_nil]); first | done | rfl | (simp only [List.length_drop, List.length_take]; rfl)) ?_
        with_reducible refine (laws_toModel.calls kj15 a0_0 a0_1 a0_2 _ _ l0_3 _ _ l0_4 _ _ l0_5 t320 t321 t322 t323 t326 t329 _ ?side1 ?side2 ?side3 ?side4 ?side5 ?side6 A74.out).mono ?_
        (case side1 => exact Kd.C_w HR0_3 HB)
        (case side2 => exact HC0_3.out)
        (case side3 => exact Kd.C_w HR0_4 HB)
        (case side4 => exact HC0_4.out)
        (case side5 => exact Kd.C_w HR0_5 HB)
        (case side6 => exact HC0_5.out)
        rintro e w84 ⟨v324, v327, v330, rfl, ho0, ho1, ho2, hb⟩
        refine ⟨_, rfl, ?_⟩
        have n0_ := Aside0.mk (Kd.R_mono (Kd.R_told (Kd.R_told (Kd.R_told (Kd.R_old (Kd.R_p HO_9) hb) (Kd.R_base ho0)) (Kd.R_base ho1)) (Kd.R_base ho2)) (fun _ h_ => h_.1))
        have n1_ := Aside0.mk (Kd.R_mono (Kd.R_told (Kd.R_told (Kd.R_told (Kd.R_old (Kd.R_p HO_289003) hb) (Kd.R_base ho0)) (Kd.R_base ho1)) (Kd.R_base ho2)) (fun _ h_ => h_.1))
        have n2_ := Aside0.mk (Kd.R_mono (Kd.R_told (Kd.R_told (Kd.R_told (Kd.R_old (Kd.R_p HO_289004) hb) (Kd.R_base ho0)) (Kd.R_base ho1)) (Kd.R_base ho2)) (fun _ h_ => h_.1))
        have n3_ := Aside0.mk (Kd.R_mono (Kd.R_told (Kd.R_told (Kd.R_told (Kd.R_old (Kd.R_p HO_289005) hb) (Kd.R_base ho0)) (Kd.R_base ho1)) (Kd.R_base ho2)) (fun _ h_ => h_.1))
        have n4_ := Aside0.mk (Kd.R_mono (Kd.R_told (Kd.R_told (Kd.R_told (Kd.R_old (Kd.R_p HO_302003) hb) (Kd.R_base ho0)) (Kd.R_base ho1)) (Kd.R_base ho2)) (fun _ h_ => h_.1))
        have n5_ := Aside0.mk (Kd.R_mono (Kd.R_told (Kd.R_told (Kd.R_told (Kd.R_old (Kd.R_p HO_302004) hb) (Kd.R_base ho0)) (Kd.R_base ho1)) (Kd.R_base ho2)) (fun _ h_ => h_.1))
        have n6_ := Aside0.mk (Kd.R_mono (Kd.R_told (Kd.R_told (Kd.R_told (Kd.R_old (Kd.R_p HO_302005) hb) (Kd.R_base ho0)) (Kd.R_base ho1)) (Kd.R_base ho2)) (fun _ h_ => h_.1))
        have n7_ := Aside0.mk (Kd.R_mono (Kd.R_told (Kd.R_told (Kd.R_told (Kd.R_old (Kd.R_p HO_319003) hb) (Kd.R_base ho0)) (Kd.R_base ho1)) (Kd.R_base ho2)) (fun _ h_ => h_.1))
        have n8_ := Aside0.mk (Kd.R_mono (Kd.R_told (Kd.R_told (Kd.R_told (Kd.R_old (Kd.R_p HO_319004) hb) (Kd.R_base ho0)) (Kd.R_base ho1)) (Kd.R_base ho2)) (fun _ h_ => h_.1))
        have n9_ := Aside0.mk (Kd.R_mono (Kd.R_told (Kd.R_told (Kd.R_told (Kd.R_old (Kd.R_p HO_319005) hb) (Kd.R_base ho0)) (Kd.R_base ho1)) (Kd.R_base ho2)) (fun _ h_ => h_.1))
        have n10_ := Aside0.mk (Kd.R_lower (Kd.R_new' (Kd.R_new' (Kd.R_new' (Kd.R_new' (Kd.R_new' (Kd.R_new' (Kd.R_new' (Kd.R_new' (Kd.R_new' (Kd.R_new' ho0 (Kd.R_lt (Kd.R_p HO_9))) (Kd.R_lt (Kd.R_p HO_289003))) (Kd.R_lt (Kd.R_p HO_289004))) (Kd.R_lt (Kd.R_p HO_289005))) (Kd.R_lt (Kd.R_p HO_302003))) (Kd.R_lt (Kd.R_p HO_302004))) (Kd.R_lt (Kd.R_p HO_302005))) (Kd.R_lt (Kd.R_p HO_319003))) (Kd.R_lt (Kd.R_p HO_319004))) (Kd.R_lt (Kd.R_p HO_319005))) (below_size (hb_ HB)))
        have n11_ := Aside0.mk (Kd.R_lower (Kd.R_new' (Kd.R_new' (Kd.R_new' (Kd.R_new' (Kd.R_new' (Kd.R_new' (Kd.R_new' (Kd.R_new' (Kd.R_new' (Kd.R_new' ho1 (Kd.R_lt (Kd.R_p HO_9))) (Kd.R_lt (Kd.R_p HO_289003))) (Kd.R_lt (Kd.R_p HO_289004))) (Kd.R_lt (Kd.R_p HO_289005))) (Kd.R_lt (Kd.R_p HO_302003))) (Kd.R_lt (Kd.R_p HO_302004))) (Kd.R_lt (Kd.R_p HO_302005))) (Kd.R_lt (Kd.R_p HO_319003))) (Kd.R_lt (Kd.R_p HO_319004))) (Kd.R_lt (Kd.R_p HO_319005))) (below_size (hb_ HB)))
        have n12_ := Aside0.mk (Kd.R_lower (Kd.R_new' (Kd.R_new' (Kd.R_new' (Kd.R_new' (Kd.R_new' (Kd.R_new' (Kd.R_new' (Kd.R_new' (Kd.R_new' (Kd.R_new' ho2 (Kd.R_lt (Kd.R_p HO_9))) (Kd.R_lt (Kd.R_p HO_289003))) (Kd.R_lt (Kd.R_p HO_289004))) (Kd.R_lt (Kd.R_p HO_289005))) (Kd.R_lt (Kd.R_p HO_302003))) (Kd.R_lt (Kd.R_p HO_302004))) (Kd.R_lt (Kd.R_p HO_302005))) (Kd.R_lt (Kd.R_p HO_319003))) (Kd.R_lt (Kd.R_p HO_319004))) (Kd.R_lt (Kd.R_p HO_319005))) (below_size (hb_ HB)))
        have n13_ := Aside0.mk (blk_below (kp_ BK258) hb)
        have n14_ := Aside0.mk (blk_below (kp_ BK288) hb)
        have n15_ := Aside0.mk (blk_below (kp_ BK301) hb)
        have n16_ := Aside0.mk (blk_below (kp_ BK318) hb)
        have n17_ := Aside0.mk (below_step (hb_ HB) hb)
        clear HO_9
        clear HO_289003
        clear HO_289004
        clear HO_289005
        clear HO_302003
        clear HO_302004
        clear HO_302005
        clear HO_319003
        clear HO_319004
        clear HO_319005
        clear BK258
        clear BK288
        clear BK301
        clear BK318
        clear HB
        have HO_9 := n0_
        have HO_289003 := n1_
        have HO_289004 := n2_
        have HO_289005 := n3_
        have HO_302003 := n4_
        have HO_302004 := n5_
        have HO_302005 := n6_
        have HO_319003 := n7_
        have HO_319004 := n8_
        have HO_319005 := n9_
        have HO325 := n10_
        have HO328 := n11_
        have HO331 := n12_
        have BK258 := n13_
        have BK288 := n14_
        have BK301 := n15_
        have BK318 := n16_
        have HB := n17_
        clear n0_ n1_ n2_ n3_ n4_ n5_ n6_ n7_ n8_ n9_ n10_ n11_ n12_ n13_ n14_ n15_ n16_ n17_
        (try clear hb)
        (try clear hb2)
        (try clear hk)
        (try clear hi)
        (try clear ho0)
        (try clear ho1)
        (try clear ho2)
        obtain ⟨Ao85, co85, eo85⟩ := Kd.R_slice HO325.out
        (first | subst eo85 | (injection eo85 with f1_ f2_ f3_; have f4_ := f1_.symm; have f5_ := f3_.symm; clear f1_ f2_ f3_; subst f4_; subst f5_))
        obtain ⟨Ao86, co86, eo86⟩ := Kd.R_slice HO328.out
        (first | subst eo86 | (injection eo86 with f1_ f2_ f3_; have f4_ := f1_.symm; have f5_ := f3_.symm; clear f1_ f2_ f3_; subst f4_; subst f5_))
        obtain ⟨Ao87, co87, eo87⟩ := Kd.R_slice HO331.out
        (first | subst eo87 | (injection eo87 with f1_ f2_ f3_; have f4_ := f1_.symm; have f5_ := f3_.symm; clear f1_ f2_ f3_; subst f4_; subst f5_))
        refine hK.out _ _ ⟨(blk_cell BK301.out 0).trans rfl, (blk_cell BK301.out 1).trans rfl, (blk_cell BK301.out 2).trans rfl, (blk_cell BK301.out 3).trans rfl, (blk_cell BK301.out 4).trans rfl, (blk_cell BK301.out 5).trans rfl, (blk_cell BK258.out 0).trans rfl, (blk_cell BK258.out 1).trans rfl, (blk_cell BK258.out 2).trans rfl, (blk_cell BK258.out 3).trans rfl, (blk_cell BK258.out 4).trans rfl, (blk_cell BK258.out 5).trans rfl⟩ (fun hHeld => ?_)
        clear hK K
        refine norm_ (a' := ?_) ?_ ?_
        rotate_left
        ·show Act.put _ (some 54) _ = _
         simp only [Act.put, List.setIfInBounds_toArray, List.set_cons_zero, List.set_cons_succ, i64_w, i32_w]
         rfl
        refine one_ (i := 3) (N := some 55) #[true, true, true, true, false] rfl rfl (by kernel_rfl) (by decide) (fun K hK => ?_)
        refine goes_ Try.func11 (by kernel_rfl) rfl #[.agg #[.int .i64 t289, .int .i64 t290, .int .i64 t291, .slice Ao40 t292.length co40, .slice Ao41 t295.length co41, .slice Ao42 t298.length co42], .agg #[.int .i64 t320, .int .i64 t321, .int .i64 t322, .slice Ao85 t323.length co85, .slice Ao86 t326.length co86, .slice Ao87 t329.length co87]] (by rfl) rfl rfl (by (try simp only [List.map_toArray, List.map_cons, List.map_nil]); first | done | rfl | (simp only [List.length_drop, List.length_take]; rfl)) ?_
        with_reducible refine (laws_eqModel.calls kj15 t289 t290 t291 _ _ t292 _ _ t295 _ _ t298 t320 t321 t322 _ _ t323 _ _ t326 _ _ t329 true _ ?side1 ?side2 ?side3 ?side4 ?side5 ?side6 ?side7 ?side8 ?side9 ?side10 ?side11 ?side12 A75.out).mono ?_
        (case side1 => exact Kd.C_o HO_302003)
        (case side2 => exact (Kd.R_reads' HO_302003.out).2.1)
        (case side3 => exact Kd.C_o HO_302004)
        (case side4 => exact (Kd.R_reads' HO_302004.out).2.1)
        (case side5 => exact Kd.C_o HO_302005)
        (case side6 => exact (Kd.R_reads' HO_302005.out).2.1)
        (case side7 => exact Kd.C_o HO325)
        (case side8 => exact (Kd.R_reads' HO325.out).2.1)
        (case side9 => exact Kd.C_o HO328)
        (case side10 => exact (Kd.R_reads' HO328.out).2.1)
        (case side11 => exact Kd.C_o HO331)
        (case side12 => exact (Kd.R_reads' HO331.out).2.1)
        rintro e w88 ⟨rfl, hb⟩
        refine ⟨_, rfl, ?_⟩
        have n0_ := Aside0.mk (Kd.R_below (Kd.R_p HO_9) hb)
        have n1_ := Aside0.mk (Kd.R_below (Kd.R_p HO_289003) hb)
        have n2_ := Aside0.mk (Kd.R_below (Kd.R_p HO_289004) hb)
        have n3_ := Aside0.mk (Kd.R_below (Kd.R_p HO_289005) hb)
        have n4_ := Aside0.mk (Kd.R_below (Kd.R_p HO_302003) hb)
        have n5_ := Aside0.mk (Kd.R_below (Kd.R_p HO_302004) hb)
        have n6_ := Aside0.mk (Kd.R_below (Kd.R_p HO_302005) hb)
        have n7_ := Aside0.mk (Kd.R_below (Kd.R_p HO_319003) hb)
        have n8_ := Aside0.mk (Kd.R_below (Kd.R_p HO_319004) hb)
        have n9_ := Aside0.mk (Kd.R_below (Kd.R_p HO_319005) hb)
        have n10_ := Aside0.mk (Kd.R_below (Kd.R_p HO325) hb)
        have n11_ := Aside0.mk (Kd.R_below (Kd.R_p HO328) hb)
        have n12_ := Aside0.mk (Kd.R_below (Kd.R_p HO331) hb)
        have n13_ := Aside0.mk (blk_below (kp_ BK258) hb)
        have n14_ := Aside0.mk (blk_below (kp_ BK288) hb)
        have n15_ := Aside0.mk (blk_below (kp_ BK301) hb)
        have n16_ := Aside0.mk (blk_below (kp_ BK318) hb)
        have n17_ := Aside0.mk (below_step (hb_ HB) hb)
        clear HO_9
        clear HO_289003
        clear HO_289004
        clear HO_289005
        clear HO_302003
        clear HO_302004
        clear HO_302005
        clear HO_319003
        clear HO_319004
        clear HO_319005
        clear HO325
        clear HO328
        clear HO331
        clear BK258
        clear BK288
        clear BK301
        clear BK318
        clear HB
        have HO_9 := n0_
        have HO_289003 := n1_
        have HO_289004 := n2_
        have HO_289005 := n3_
        have HO_302003 := n4_
        have HO_302004 := n5_
        have HO_302005 := n6_
        have HO_319003 := n7_
        have HO_319004 := n8_
        have HO_319005 := n9_
        have HO325 := n10_
        have HO328 := n11_
        have HO331 := n12_
        have BK258 := n13_
        have BK288 := n14_
        have BK301 := n15_
        have BK318 := n16_
        have HB := n17_
        clear n0_ n1_ n2_ n3_ n4_ n5_ n6_ n7_ n8_ n9_ n10_ n11_ n12_ n13_ n14_ n15_ n16_ n17_
        (try clear hb)
        (try clear hb2)
        (try clear hk)
        (try clear hi)
        refine hK.out _ _ ⟨(blk_cell BK301.out 0).trans rfl, (blk_cell BK301.out 1).trans rfl, (blk_cell BK301.out 2).trans rfl, (blk_cell BK301.out 3).trans rfl, (blk_cell BK301.out 4).trans rfl, (blk_cell BK301.out 5).trans rfl, (blk_cell BK258.out 0).trans rfl, (blk_cell BK258.out 1).trans rfl, (blk_cell BK258.out 2).trans rfl, (blk_cell BK258.out 3).trans rfl, (blk_cell BK258.out 4).trans rfl, (blk_cell BK258.out 5).trans rfl⟩ (fun hHeld => ?_)
        clear hK K
        refine norm_ (a' := ?_) ?_ ?_
        rotate_left
        ·show Act.put _ (some 55) _ = _
         simp only [Act.put, List.setIfInBounds_toArray, List.set_cons_zero, List.set_cons_succ, i64_w, i32_w]
         rfl
        refine pure_ (i := 4) (N := some 56) (v := ?_) (a' := ?_) #[true, true, true, true, true] rfl rfl (by kernel_rfl) (fun _ _ _ h => h) (Or.inl ⟨by rfl, ?_⟩) ?_ ?_
        rotate_left
        ·intro w'
         go_simp
         with_reducible rfl
        rotate_left
        ·simp only [Act.put, List.setIfInBounds_toArray, List.set_cons_zero, List.set_cons_succ, i64_w, i32_w]
         rfl
        refine done_ (by kernel_rfl) ?_
        (try clear HO325); (try clear HO328); (try clear HO331)
        go_upto_region 20 with (first | ((with_reducible refine gate_callee (f := 15) rfl ?_); refine gl_ (some 59) Try.func15 #[.slice A1 l1.length c1] rfl rfl rfl ?_; (with_reducible refine (laws_toIntS.calls kj15 _ _ l1 t333 _ ?side1 ?side2 A77.out).mono ?_); (case side1 => exact Kd.C_w HR1 HB); (case side2 => exact HC1.out); rintro e w89 ⟨v334, rfl, ho0, hb⟩; refine ⟨_, rfl, ?_⟩; have HO335 := Aside0.mk (Kd.R_lower (Kd.R_new' (Kd.R_new' (Kd.R_new' (Kd.R_new' (Kd.R_new' (Kd.R_new' (Kd.R_new' (Kd.R_new' (Kd.R_new' (Kd.R_new' ho0 (Kd.R_lt (Kd.R_p HO_9))) (Kd.R_lt (Kd.R_p HO_289003))) (Kd.R_lt (Kd.R_p HO_289004))) (Kd.R_lt (Kd.R_p HO_289005))) (Kd.R_lt (Kd.R_p HO_302003))) (Kd.R_lt (Kd.R_p HO_302004))) (Kd.R_lt (Kd.R_p HO_302005))) (Kd.R_lt (Kd.R_p HO_319003))) (Kd.R_lt (Kd.R_p HO_319004))) (Kd.R_lt (Kd.R_p HO_319005))) (below_size (hb_ HB))); replace HO_9 := Kd.R_e HO_9 ho0 hb; replace HO_289003 := Kd.R_e HO_289003 ho0 hb; replace HO_289004 := Kd.R_e HO_289004 ho0 hb; replace HO_289005 := Kd.R_e HO_289005 ho0 hb; replace HO_302003 := Kd.R_e HO_302003 ho0 hb; replace HO_302004 := Kd.R_e HO_302004 ho0 hb; replace HO_302005 := Kd.R_e HO_302005 ho0 hb; replace HO_319003 := Kd.R_e HO_319003 ho0 hb; replace HO_319004 := Kd.R_e HO_319004 ho0 hb; replace HO_319005 := Kd.R_e HO_319005 ho0 hb; replace BK258 := kb_ BK258 hb; replace BK288 := kb_ BK288 hb; replace BK301 := kb_ BK301 hb; replace BK318 := kb_ BK318 hb; replace HB := hbs_ HB hb; (try clear hb); (try clear hb2); (try clear hk); (try clear hi); (try clear ho0); obtain ⟨Ao90, co90, eo90⟩ := Kd.R_slice HO335.out; subst eo90) | ((with_reducible refine gate_callee (f := 17) rfl ?_); refine gl_ (some 60) Try.func17 #[.slice Ao45 t302.length co45, .slice Ao90 t333.length co90] rfl rfl rfl ?_; (with_reducible refine (laws_eqIntS.calls kj15 _ _ t302 _ _ t333 true _ ?side1 ?side2 ?side3 ?side4 A78.out).mono ?_); (case side1 => exact Kd.C_o HO_9); (case side2 => exact (Kd.R_reads' HO_9.out).2.1); (case side3 => exact Kd.C_o HO335); (case side4 => exact (Kd.R_reads' HO335.out).2.1); rintro e w' ⟨rfl, ⟨nd, rfl⟩⟩; refine ⟨_, rfl, ?_⟩; have hnb91 := NB301_258.out; have hnc91 := NB258_301.out; have hnb92 := NB301_288.out; have hnc92 := NB288_301.out; have hnb93 := NB301_318.out; have hnc93 := NB318_301.out; obtain ⟨hcz94_0, hcz94_1, hcz94_2, hcz94_3, hcz94_4, hcz94_5, hfz94_0, hfz94_1, hfz94_2, hfz94_3, hfz94_4, hfz94_5⟩ := bx6 BK301; try clear HO335) | ((with_reducible refine gate_callee (f := 12) rfl ?_); refine gl_ (some 64) Try.func12 #[.agg #[.int .i64 t289, .int .i64 t290, .int .i64 t291, .slice Ao40 t292.length co40, .slice Ao41 t295.length co41, .slice Ao42 t298.length co42], .int .i64 1] rfl rfl rfl ?_; (with_reducible refine (laws_markModel.calls kj15 t289 t290 t291 (fun k_ => some k_ = (.slice Ao40 t292.length co40 : Value).ownBlock) (.slice Ao40 t292.length co40) t292 (fun k_ => some k_ = (.slice Ao41 t295.length co41 : Value).ownBlock) (.slice Ao41 t295.length co41) t295 (fun k_ => some k_ = (.slice Ao42 t298.length co42 : Value).ownBlock) (.slice Ao42 t298.length co42) t298 1 t337 t338 t339 t340 w _ ?side1 ?side2 ?side3 ?side4 ?side5 ?side6 ?side7 ?side8 ?side9 ?side10 A80.out).mono ?_); (case side1 => repeat (first | (with_reducible first | exact HB.out | apply below_alloc | apply pw_below_drewN | apply below_drew1 | refine below_set ?_ GE258.out | refine below_set ?_ GE288.out | refine below_set ?_ GE301.out | refine below_set ?_ GE318.out) | exact HB.out)); (case side2 => exact Kd.R_tight rfl HO_302003.out); (case side3 => exact fun k_ e_ => (HO_302003.out.1 k_ e_.symm).1.1.1.1.2.2.2.2.1); (case side4 => exact fun k_ e_ => (HO_302003.out.1 k_ e_.symm).1.1.1.1.2.2.2.2.2.1); (case side5 => exact Kd.R_tight rfl HO_302004.out); (case side6 => exact fun k_ e_ => (HO_302004.out.1 k_ e_.symm).1.1.1.1.2.2.2.2.1); (case side7 => exact fun k_ e_ => (HO_302004.out.1 k_ e_.symm).1.1.1.1.2.2.2.2.2.1); (case side8 => exact Kd.R_tight rfl HO_302005.out); (case side9 => exact fun k_ e_ => (HO_302005.out.1 k_ e_.symm).1.1.1.1.2.2.2.2.1); (case side10 => exact fun k_ e_ => (HO_302005.out.1 k_ e_.symm).1.1.1.1.2.2.2.2.2.1); rintro e w95 ⟨rfl, hy0, hy1, hy2, hb, hkp⟩; refine ⟨_, rfl, ?_⟩; replace HO_9 := Aside0.mk (Kd.R_mono (ok' := fun k_ => some k_ ≠ (.slice Ao31 t278.length co31 : Value).ownBlock ∧ some k_ ≠ (.slice Ao32 t281.length co32 : Value).ownBlock ∧ some k_ ≠ (.slice Ao33 t284.length co33 : Value).ownBlock ∧ some k_ ≠ (.slice Ao40 t292.length co40 : Value).ownBlock ∧ some k_ ≠ (.slice Ao41 t295.length co41 : Value).ownBlock ∧ some k_ ≠ (.slice Ao42 t298.length co42 : Value).ownBlock ∧ some k_ ≠ (.slice Ao52 t308.length co52 : Value).ownBlock ∧ some k_ ≠ (.slice Ao53 t311.length co53 : Value).ownBlock ∧ some k_ ≠ (.slice Ao54 t314.length co54 : Value).ownBlock) (Kd.R_keptB (HO_9.out) hkp (fun k_ hk_ hs_ => Or.elim hs_ (fun e_ => (hk_.1.1.1.1.2.2.2.1) e_) (fun e_ => Or.elim e_ (fun e_ => (hk_.1.1.1.1.2.2.2.2.1) e_) (fun e_ => (hk_.1.1.1.1.2.2.2.2.2.1) e_)))) (fun k_ hk_ => ⟨hk_.1.1.1.1.1.1, hk_.1.1.1.1.1.2.1, hk_.1.1.1.1.1.2.2.1, hk_.1.1.1.1.1.2.2.2.1, hk_.1.1.1.1.1.2.2.2.2.1, hk_.1.1.1.1.1.2.2.2.2.2.1, hk_.1.1.1.1.1.2.2.2.2.2.2.1, hk_.1.1.1.1.1.2.2.2.2.2.2.2.1, hk_.1.1.1.1.1.2.2.2.2.2.2.2.2⟩)); replace HO_289003 := Aside0.mk (Kd.R_mono (ok' := fun k_ => some k_ ≠ (.slice Ao45 t302.length co45 : Value).ownBlock ∧ some k_ ≠ (.slice Ao32 t281.length co32 : Value).ownBlock ∧ some k_ ≠ (.slice Ao33 t284.length co33 : Value).ownBlock ∧ some k_ ≠ (.slice Ao40 t292.length co40 : Value).ownBlock ∧ some k_ ≠ (.slice Ao41 t295.length co41 : Value).ownBlock ∧ some k_ ≠ (.slice Ao42 t298.length co42 : Value).ownBlock ∧ some k_ ≠ (.slice Ao52 t308.length co52 : Value).ownBlock ∧ some k_ ≠ (.slice Ao53 t311.length co53 : Value).ownBlock ∧ some k_ ≠ (.slice Ao54 t314.length co54 : Value).ownBlock) (Kd.R_keptB (HO_289003.out) hkp (fun k_ hk_ hs_ => Or.elim hs_ (fun e_ => (hk_.1.1.1.1.2.2.2.1) e_) (fun e_ => Or.elim e_ (fun e_ => (hk_.1.1.1.1.2.2.2.2.1) e_) (fun e_ => (hk_.1.1.1.1.2.2.2.2.2.1) e_)))) (fun k_ hk_ => ⟨hk_.1.1.1.1.1.1, hk_.1.1.1.1.1.2.1, hk_.1.1.1.1.1.2.2.1, hk_.1.1.1.1.1.2.2.2.1, hk_.1.1.1.1.1.2.2.2.2.1, hk_.1.1.1.1.1.2.2.2.2.2.1, hk_.1.1.1.1.1.2.2.2.2.2.2.1, hk_.1.1.1.1.1.2.2.2.2.2.2.2.1, hk_.1.1.1.1.1.2.2.2.2.2.2.2.2⟩)); replace HO_289004 := Aside0.mk (Kd.R_mono (ok' := fun k_ => some k_ ≠ (.slice Ao45 t302.length co45 : Value).ownBlock ∧ some k_ ≠ (.slice Ao31 t278.length co31 : Value).ownBlock ∧ some k_ ≠ (.slice Ao33 t284.length co33 : Value).ownBlock ∧ some k_ ≠ (.slice Ao40 t292.length co40 : Value).ownBlock ∧ some k_ ≠ (.slice Ao41 t295.length co41 : Value).ownBlock ∧ some k_ ≠ (.slice Ao42 t298.length co42 : Value).ownBlock ∧ some k_ ≠ (.slice Ao52 t308.length co52 : Value).ownBlock ∧ some k_ ≠ (.slice Ao53 t311.length co53 : Value).ownBlock ∧ some k_ ≠ (.slice Ao54 t314.length co54 : Value).ownBlock) (Kd.R_keptB (HO_289004.out) hkp (fun k_ hk_ hs_ => Or.elim hs_ (fun e_ => (hk_.1.1.1.1.2.2.2.1) e_) (fun e_ => Or.elim e_ (fun e_ => (hk_.1.1.1.1.2.2.2.2.1) e_) (fun e_ => (hk_.1.1.1.1.2.2.2.2.2.1) e_)))) (fun k_ hk_ => ⟨hk_.1.1.1.1.1.1, hk_.1.1.1.1.1.2.1, hk_.1.1.1.1.1.2.2.1, hk_.1.1.1.1.1.2.2.2.1, hk_.1.1.1.1.1.2.2.2.2.1, hk_.1.1.1.1.1.2.2.2.2.2.1, hk_.1.1.1.1.1.2.2.2.2.2.2.1, hk_.1.1.1.1.1.2.2.2.2.2.2.2.1, hk_.1.1.1.1.1.2.2.2.2.2.2.2.2⟩)); replace HO_289005 := Aside0.mk (Kd.R_mono (ok' := fun k_ => some k_ ≠ (.slice Ao45 t302.length co45 : Value).ownBlock ∧ some k_ ≠ (.slice Ao31 t278.length co31 : Value).ownBlock ∧ some k_ ≠ (.slice Ao32 t281.length co32 : Value).ownBlock ∧ some k_ ≠ (.slice Ao40 t292.length co40 : Value).ownBlock ∧ some k_ ≠ (.slice Ao41 t295.length co41 : Value).ownBlock ∧ some k_ ≠ (.slice Ao42 t298.length co42 : Value).ownBlock ∧ some k_ ≠ (.slice Ao52 t308.length co52 : Value).ownBlock ∧ some k_ ≠ (.slice Ao53 t311.length co53 : Value).ownBlock ∧ some k_ ≠ (.slice Ao54 t314.length co54 : Value).ownBlock) (Kd.R_keptB (HO_289005.out) hkp (fun k_ hk_ hs_ => Or.elim hs_ (fun e_ => (hk_.1.1.1.1.2.2.2.1) e_) (fun e_ => Or.elim e_ (fun e_ => (hk_.1.1.1.1.2.2.2.2.1) e_) (fun e_ => (hk_.1.1.1.1.2.2.2.2.2.1) e_)))) (fun k_ hk_ => ⟨hk_.1.1.1.1.1.1, hk_.1.1.1.1.1.2.1, hk_.1.1.1.1.1.2.2.1, hk_.1.1.1.1.1.2.2.2.1, hk_.1.1.1.1.1.2.2.2.2.1, hk_.1.1.1.1.1.2.2.2.2.2.1, hk_.1.1.1.1.1.2.2.2.2.2.2.1, hk_.1.1.1.1.1.2.2.2.2.2.2.2.1, hk_.1.1.1.1.1.2.2.2.2.2.2.2.2⟩)); replace HO_319003 := Aside0.mk (Kd.R_mono (ok' := fun k_ => some k_ ≠ (.slice Ao45 t302.length co45 : Value).ownBlock ∧ some k_ ≠ (.slice Ao31 t278.length co31 : Value).ownBlock ∧ some k_ ≠ (.slice Ao32 t281.length co32 : Value).ownBlock ∧ some k_ ≠ (.slice Ao33 t284.length co33 : Value).ownBlock ∧ some k_ ≠ (.slice Ao40 t292.length co40 : Value).ownBlock ∧ some k_ ≠ (.slice Ao41 t295.length co41 : Value).ownBlock ∧ some k_ ≠ (.slice Ao42 t298.length co42 : Value).ownBlock ∧ some k_ ≠ (.slice Ao53 t311.length co53 : Value).ownBlock ∧ some k_ ≠ (.slice Ao54 t314.length co54 : Value).ownBlock) (Kd.R_keptB (HO_319003.out) hkp (fun k_ hk_ hs_ => Or.elim hs_ (fun e_ => (hk_.1.1.1.1.2.2.2.2.1) e_) (fun e_ => Or.elim e_ (fun e_ => (hk_.1.1.1.1.2.2.2.2.2.1) e_) (fun e_ => (hk_.1.1.1.1.2.2.2.2.2.2.1) e_)))) (fun k_ hk_ => ⟨hk_.1.1.1.1.1.1, hk_.1.1.1.1.1.2.1, hk_.1.1.1.1.1.2.2.1, hk_.1.1.1.1.1.2.2.2.1, hk_.1.1.1.1.1.2.2.2.2.1, hk_.1.1.1.1.1.2.2.2.2.2.1, hk_.1.1.1.1.1.2.2.2.2.2.2.1, hk_.1.1.1.1.1.2.2.2.2.2.2.2.1, hk_.1.1.1.1.1.2.2.2.2.2.2.2.2⟩)); replace HO_319004 := Aside0.mk (Kd.R_mono (ok' := fun k_ => some k_ ≠ (.slice Ao45 t302.length co45 : Value).ownBlock ∧ some k_ ≠ (.slice Ao31 t278.length co31 : Value).ownBlock ∧ some k_ ≠ (.slice Ao32 t281.length co32 : Value).ownBlock ∧ some k_ ≠ (.slice Ao33 t284.length co33 : Value).ownBlock ∧ some k_ ≠ (.slice Ao40 t292.length co40 : Value).ownBlock ∧ some k_ ≠ (.slice Ao41 t295.length co41 : Value).ownBlock ∧ some k_ ≠ (.slice Ao42 t298.length co42 : Value).ownBlock ∧ some k_ ≠ (.slice Ao52 t308.length co52 : Value).ownBlock ∧ some k_ ≠ (.slice Ao54 t314.length co54 : Value).ownBlock) (Kd.R_keptB (HO_319004.out) hkp (fun k_ hk_ hs_ => Or.elim hs_ (fun e_ => (hk_.1.1.1.1.2.2.2.2.1) e_) (fun e_ => Or.elim e_ (fun e_ => (hk_.1.1.1.1.2.2.2.2.2.1) e_) (fun e_ => (hk_.1.1.1.1.2.2.2.2.2.2.1) e_)))) (fun k_ hk_ => ⟨hk_.1.1.1.1.1.1, hk_.1.1.1.1.1.2.1, hk_.1.1.1.1.1.2.2.1, hk_.1.1.1.1.1.2.2.2.1, hk_.1.1.1.1.1.2.2.2.2.1, hk_.1.1.1.1.1.2.2.2.2.2.1, hk_.1.1.1.1.1.2.2.2.2.2.2.1, hk_.1.1.1.1.1.2.2.2.2.2.2.2.1, hk_.1.1.1.1.1.2.2.2.2.2.2.2.2⟩)); replace HO_319005 := Aside0.mk (Kd.R_mono (ok' := fun k_ => some k_ ≠ (.slice Ao45 t302.length co45 : Value).ownBlock ∧ some k_ ≠ (.slice Ao31 t278.length co31 : Value).ownBlock ∧ some k_ ≠ (.slice Ao32 t281.length co32 : Value).ownBlock ∧ some k_ ≠ (.slice Ao33 t284.length co33 : Value).ownBlock ∧ some k_ ≠ (.slice Ao40 t292.length co40 : Value).ownBlock ∧ some k_ ≠ (.slice Ao41 t295.length co41 : Value).ownBlock ∧ some k_ ≠ (.slice Ao42 t298.length co42 : Value).ownBlock ∧ some k_ ≠ (.slice Ao52 t308.length co52 : Value).ownBlock ∧ some k_ ≠ (.slice Ao53 t311.length co53 : Value).ownBlock) (Kd.R_keptB (HO_319005.out) hkp (fun k_ hk_ hs_ => Or.elim hs_ (fun e_ => (hk_.1.1.1.1.2.2.2.2.1) e_) (fun e_ => Or.elim e_ (fun e_ => (hk_.1.1.1.1.2.2.2.2.2.1) e_) (fun e_ => (hk_.1.1.1.1.2.2.2.2.2.2.1) e_)))) (fun k_ hk_ => ⟨hk_.1.1.1.1.1.1, hk_.1.1.1.1.1.2.1, hk_.1.1.1.1.1.2.2.1, hk_.1.1.1.1.1.2.2.2.1, hk_.1.1.1.1.1.2.2.2.2.1, hk_.1.1.1.1.1.2.2.2.2.2.1, hk_.1.1.1.1.1.2.2.2.2.2.2.1, hk_.1.1.1.1.1.2.2.2.2.2.2.2.1, hk_.1.1.1.1.1.2.2.2.2.2.2.2.2⟩)); replace BK258 := Aside0.mk (blk_kept (kp_ BK258) hkp (fun hs_ => Or.elim hs_ (fun e_ => (fun e_ => (Kd.R_ne HO_302003.out BK258.out (by decide)) e_) e_) (fun e_ => Or.elim e_ (fun e_ => (fun e_ => (Kd.R_ne HO_302004.out BK258.out (by decide)) e_) e_) (fun e_ => (fun e_ => (Kd.R_ne HO_302005.out BK258.out (by decide)) e_) e_)))); replace BK288 := Aside0.mk (blk_kept (kp_ BK288) hkp (fun hs_ => Or.elim hs_ (fun e_ => (fun e_ => (Kd.R_ne HO_302003.out BK288.out (by decide)) e_) e_) (fun e_ => Or.elim e_ (fun e_ => (fun e_ => (Kd.R_ne HO_302004.out BK288.out (by decide)) e_) e_) (fun e_ => (fun e_ => (Kd.R_ne HO_302005.out BK288.out (by decide)) e_) e_)))); replace BK301 := Aside0.mk (blk_kept (kp_ BK301) hkp (fun hs_ => Or.elim hs_ (fun e_ => (fun e_ => (Kd.R_ne HO_302003.out BK301.out (by decide)) e_) e_) (fun e_ => Or.elim e_ (fun e_ => (fun e_ => (Kd.R_ne HO_302004.out BK301.out (by decide)) e_) e_) (fun e_ => (fun e_ => (Kd.R_ne HO_302005.out BK301.out (by decide)) e_) e_)))); replace BK318 := Aside0.mk (blk_kept (kp_ BK318) hkp (fun hs_ => Or.elim hs_ (fun e_ => (fun e_ => (Kd.R_ne HO_302003.out BK318.out (by decide)) e_) e_) (fun e_ => Or.elim e_ (fun e_ => (fun e_ => (Kd.R_ne HO_302004.out BK318.out (by decide)) e_) e_) (fun e_ => (fun e_ => (Kd.R_ne HO_302005.out BK318.out (by decide)) e_) e_)))); replace HB := Aside0.mk (hb); replace HO_302003 := Aside0.mk (Kd.R_reok rfl hy0 (fun k_ e_ => HO_302003.out.1 k_ e_)); replace HO_302004 := Aside0.mk (Kd.R_reok rfl hy1 (fun k_ e_ => HO_302004.out.1 k_ e_)); replace HO_302005 := Aside0.mk (Kd.R_reok rfl hy2 (fun k_ e_ => HO_302005.out.1 k_ e_)); (try clear hb); (try clear hkp); (try clear hy0); (try clear hy1); (try clear hy2); try clear BK301; try clear GW301; try clear GE301; try clear NB301_258; try clear NB258_301; try clear NB301_288; try clear NB288_301; try clear NB301_318; try clear NB318_301) | ((with_reducible refine gate_callee (f := 18) rfl ?_); refine gl_ (some 67) Try.func18 #[.slice Ao45 t302.length co45, .int .i64 t337] rfl rfl rfl ?_; (with_reducible refine (laws_markIntS.calls kj15 (fun k_ => some k_ = (.slice Ao45 t302.length co45 : Value).ownBlock) (.slice Ao45 t302.length co45) t302 t337 t341 t342 w _ ?side1 ?side2 A81.out).mono ?_); (case side1 => repeat (first | (with_reducible first | exact HB.out | apply below_alloc | apply pw_below_drewN | apply below_drew1 | refine below_set ?_ GE258.out | refine below_set ?_ GE288.out | refine below_set ?_ GE318.out) | exact HB.out)); (case side2 => exact Kd.R_tight rfl HO_9.out); rintro e w96 ⟨rfl, hy0, hb, hkp⟩; refine ⟨_, rfl, ?_⟩; replace HO_289003 := Aside0.mk (Kd.R_mono (ok' := fun k_ => some k_ ≠ (.slice Ao45 t302.length co45 : Value).ownBlock ∧ some k_ ≠ (.slice Ao32 t281.length co32 : Value).ownBlock ∧ some k_ ≠ (.slice Ao33 t284.length co33 : Value).ownBlock ∧ some k_ ≠ (.slice Ao40 t292.length co40 : Value).ownBlock ∧ some k_ ≠ (.slice Ao41 t295.length co41 : Value).ownBlock ∧ some k_ ≠ (.slice Ao42 t298.length co42 : Value).ownBlock ∧ some k_ ≠ (.slice Ao52 t308.length co52 : Value).ownBlock ∧ some k_ ≠ (.slice Ao53 t311.length co53 : Value).ownBlock ∧ some k_ ≠ (.slice Ao54 t314.length co54 : Value).ownBlock) (Kd.R_keptB (HO_289003.out) hkp (fun k_ hk_ hs_ => (hk_.1) hs_)) (fun k_ hk_ => ⟨hk_.1.1, hk_.1.2.1, hk_.1.2.2.1, hk_.1.2.2.2.1, hk_.1.2.2.2.2.1, hk_.1.2.2.2.2.2.1, hk_.1.2.2.2.2.2.2.1, hk_.1.2.2.2.2.2.2.2.1, hk_.1.2.2.2.2.2.2.2.2⟩)); replace HO_289004 := Aside0.mk (Kd.R_mono (ok' := fun k_ => some k_ ≠ (.slice Ao45 t302.length co45 : Value).ownBlock ∧ some k_ ≠ (.slice Ao31 t278.length co31 : Value).ownBlock ∧ some k_ ≠ (.slice Ao33 t284.length co33 : Value).ownBlock ∧ some k_ ≠ (.slice Ao40 t292.length co40 : Value).ownBlock ∧ some k_ ≠ (.slice Ao41 t295.length co41 : Value).ownBlock ∧ some k_ ≠ (.slice Ao42 t298.length co42 : Value).ownBlock ∧ some k_ ≠ (.slice Ao52 t308.length co52 : Value).ownBlock ∧ some k_ ≠ (.slice Ao53 t311.length co53 : Value).ownBlock ∧ some k_ ≠ (.slice Ao54 t314.length co54 : Value).ownBlock) (Kd.R_keptB (HO_289004.out) hkp (fun k_ hk_ hs_ => (hk_.1) hs_)) (fun k_ hk_ => ⟨hk_.1.1, hk_.1.2.1, hk_.1.2.2.1, hk_.1.2.2.2.1, hk_.1.2.2.2.2.1, hk_.1.2.2.2.2.2.1, hk_.1.2.2.2.2.2.2.1, hk_.1.2.2.2.2.2.2.2.1, hk_.1.2.2.2.2.2.2.2.2⟩)); replace HO_289005 := Aside0.mk (Kd.R_mono (ok' := fun k_ => some k_ ≠ (.slice Ao45 t302.length co45 : Value).ownBlock ∧ some k_ ≠ (.slice Ao31 t278.length co31 : Value).ownBlock ∧ some k_ ≠ (.slice Ao32 t281.length co32 : Value).ownBlock ∧ some k_ ≠ (.slice Ao40 t292.length co40 : Value).ownBlock ∧ some k_ ≠ (.slice Ao41 t295.length co41 : Value).ownBlock ∧ some k_ ≠ (.slice Ao42 t298.length co42 : Value).ownBlock ∧ some k_ ≠ (.slice Ao52 t308.length co52 : Value).ownBlock ∧ some k_ ≠ (.slice Ao53 t311.length co53 : Value).ownBlock ∧ some k_ ≠ (.slice Ao54 t314.length co54 : Value).ownBlock) (Kd.R_keptB (HO_289005.out) hkp (fun k_ hk_ hs_ => (hk_.1) hs_)) (fun k_ hk_ => ⟨hk_.1.1, hk_.1.2.1, hk_.1.2.2.1, hk_.1.2.2.2.1, hk_.1.2.2.2.2.1, hk_.1.2.2.2.2.2.1, hk_.1.2.2.2.2.2.2.1, hk_.1.2.2.2.2.2.2.2.1, hk_.1.2.2.2.2.2.2.2.2⟩)); replace HO_302003 := Aside0.mk (Kd.R_mono (ok' := fun k_ => some k_ ≠ (.slice Ao45 t302.length co45 : Value).ownBlock ∧ some k_ ≠ (.slice Ao31 t278.length co31 : Value).ownBlock ∧ some k_ ≠ (.slice Ao32 t281.length co32 : Value).ownBlock ∧ some k_ ≠ (.slice Ao33 t284.length co33 : Value).ownBlock ∧ some k_ ≠ (.slice Ao41 t295.length co41 : Value).ownBlock ∧ some k_ ≠ (.slice Ao42 t298.length co42 : Value).ownBlock ∧ some k_ ≠ (.slice Ao52 t308.length co52 : Value).ownBlock ∧ some k_ ≠ (.slice Ao53 t311.length co53 : Value).ownBlock ∧ some k_ ≠ (.slice Ao54 t314.length co54 : Value).ownBlock) (Kd.R_keptB (HO_302003.out) hkp (fun k_ hk_ hs_ => (hk_.1.1.1.1.1) hs_)) (fun k_ hk_ => ⟨hk_.1.1.1.1.1.1, hk_.1.1.1.1.1.2.1, hk_.1.1.1.1.1.2.2.1, hk_.1.1.1.1.1.2.2.2.1, hk_.1.1.1.1.1.2.2.2.2.1, hk_.1.1.1.1.1.2.2.2.2.2.1, hk_.1.1.1.1.1.2.2.2.2.2.2.1, hk_.1.1.1.1.1.2.2.2.2.2.2.2.1, hk_.1.1.1.1.1.2.2.2.2.2.2.2.2⟩)); replace HO_302004 := Aside0.mk (Kd.R_mono (ok' := fun k_ => some k_ ≠ (.slice Ao45 t302.length co45 : Value).ownBlock ∧ some k_ ≠ (.slice Ao31 t278.length co31 : Value).ownBlock ∧ some k_ ≠ (.slice Ao32 t281.length co32 : Value).ownBlock ∧ some k_ ≠ (.slice Ao33 t284.length co33 : Value).ownBlock ∧ some k_ ≠ (.slice Ao40 t292.length co40 : Value).ownBlock ∧ some k_ ≠ (.slice Ao42 t298.length co42 : Value).ownBlock ∧ some k_ ≠ (.slice Ao52 t308.length co52 : Value).ownBlock ∧ some k_ ≠ (.slice Ao53 t311.length co53 : Value).ownBlock ∧ some k_ ≠ (.slice Ao54 t314.length co54 : Value).ownBlock) (Kd.R_keptB (HO_302004.out) hkp (fun k_ hk_ hs_ => (hk_.1.1.1.1.1) hs_)) (fun k_ hk_ => ⟨hk_.1.1.1.1.1.1, hk_.1.1.1.1.1.2.1, hk_.1.1.1.1.1.2.2.1, hk_.1.1.1.1.1.2.2.2.1, hk_.1.1.1.1.1.2.2.2.2.1, hk_.1.1.1.1.1.2.2.2.2.2.1, hk_.1.1.1.1.1.2.2.2.2.2.2.1, hk_.1.1.1.1.1.2.2.2.2.2.2.2.1, hk_.1.1.1.1.1.2.2.2.2.2.2.2.2⟩)); replace HO_302005 := Aside0.mk (Kd.R_mono (ok' := fun k_ => some k_ ≠ (.slice Ao45 t302.length co45 : Value).ownBlock ∧ some k_ ≠ (.slice Ao31 t278.length co31 : Value).ownBlock ∧ some k_ ≠ (.slice Ao32 t281.length co32 : Value).ownBlock ∧ some k_ ≠ (.slice Ao33 t284.length co33 : Value).ownBlock ∧ some k_ ≠ (.slice Ao40 t292.length co40 : Value).ownBlock ∧ some k_ ≠ (.slice Ao41 t295.length co41 : Value).ownBlock ∧ some k_ ≠ (.slice Ao52 t308.length co52 : Value).ownBlock ∧ some k_ ≠ (.slice Ao53 t311.length co53 : Value).ownBlock ∧ some k_ ≠ (.slice Ao54 t314.length co54 : Value).ownBlock) (Kd.R_keptB (HO_302005.out) hkp (fun k_ hk_ hs_ => (hk_.1.1.1.1.1) hs_)) (fun k_ hk_ => ⟨hk_.1.1.1.1.1.1, hk_.1.1.1.1.1.2.1, hk_.1.1.1.1.1.2.2.1, hk_.1.1.1.1.1.2.2.2.1, hk_.1.1.1.1.1.2.2.2.2.1, hk_.1.1.1.1.1.2.2.2.2.2.1, hk_.1.1.1.1.1.2.2.2.2.2.2.1, hk_.1.1.1.1.1.2.2.2.2.2.2.2.1, hk_.1.1.1.1.1.2.2.2.2.2.2.2.2⟩)); replace HO_319003 := Aside0.mk (Kd.R_mono (ok' := fun k_ => some k_ ≠ (.slice Ao45 t302.length co45 : Value).ownBlock ∧ some k_ ≠ (.slice Ao31 t278.length co31 : Value).ownBlock ∧ some k_ ≠ (.slice Ao32 t281.length co32 : Value).ownBlock ∧ some k_ ≠ (.slice Ao33 t284.length co33 : Value).ownBlock ∧ some k_ ≠ (.slice Ao40 t292.length co40 : Value).ownBlock ∧ some k_ ≠ (.slice Ao41 t295.length co41 : Value).ownBlock ∧ some k_ ≠ (.slice Ao42 t298.length co42 : Value).ownBlock ∧ some k_ ≠ (.slice Ao53 t311.length co53 : Value).ownBlock ∧ some k_ ≠ (.slice Ao54 t314.length co54 : Value).ownBlock) (Kd.R_keptB (HO_319003.out) hkp (fun k_ hk_ hs_ => (hk_.1) hs_)) (fun k_ hk_ => ⟨hk_.1.1, hk_.1.2.1, hk_.1.2.2.1, hk_.1.2.2.2.1, hk_.1.2.2.2.2.1, hk_.1.2.2.2.2.2.1, hk_.1.2.2.2.2.2.2.1, hk_.1.2.2.2.2.2.2.2.1, hk_.1.2.2.2.2.2.2.2.2⟩)); replace HO_319004 := Aside0.mk (Kd.R_mono (ok' := fun k_ => some k_ ≠ (.slice Ao45 t302.length co45 : Value).ownBlock ∧ some k_ ≠ (.slice Ao31 t278.length co31 : Value).ownBlock ∧ some k_ ≠ (.slice Ao32 t281.length co32 : Value).ownBlock ∧ some k_ ≠ (.slice Ao33 t284.length co33 : Value).ownBlock ∧ some k_ ≠ (.slice Ao40 t292.length co40 : Value).ownBlock ∧ some k_ ≠ (.slice Ao41 t295.length co41 : Value).ownBlock ∧ some k_ ≠ (.slice Ao42 t298.length co42 : Value).ownBlock ∧ some k_ ≠ (.slice Ao52 t308.length co52 : Value).ownBlock ∧ some k_ ≠ (.slice Ao54 t314.length co54 : Value).ownBlock) (Kd.R_keptB (HO_319004.out) hkp (fun k_ hk_ hs_ => (hk_.1) hs_)) (fun k_ hk_ => ⟨hk_.1.1, hk_.1.2.1, hk_.1.2.2.1, hk_.1.2.2.2.1, hk_.1.2.2.2.2.1, hk_.1.2.2.2.2.2.1, hk_.1.2.2.2.2.2.2.1, hk_.1.2.2.2.2.2.2.2.1, hk_.1.2.2.2.2.2.2.2.2⟩)); replace HO_319005 := Aside0.mk (Kd.R_mono (ok' := fun k_ => some k_ ≠ (.slice Ao45 t302.length co45 : Value).ownBlock ∧ some k_ ≠ (.slice Ao31 t278.length co31 : Value).ownBlock ∧ some k_ ≠ (.slice Ao32 t281.length co32 : Value).ownBlock ∧ some k_ ≠ (.slice Ao33 t284.length co33 : Value).ownBlock ∧ some k_ ≠ (.slice Ao40 t292.length co40 : Value).ownBlock ∧ some k_ ≠ (.slice Ao41 t295.length co41 : Value).ownBlock ∧ some k_ ≠ (.slice Ao42 t298.length co42 : Value).ownBlock ∧ some k_ ≠ (.slice Ao52 t308.length co52 : Value).ownBlock ∧ some k_ ≠ (.slice Ao53 t311.length co53 : Value).ownBlock) (Kd.R_keptB (HO_319005.out) hkp (fun k_ hk_ hs_ => (hk_.1) hs_)) (fun k_ hk_ => ⟨hk_.1.1, hk_.1.2.1, hk_.1.2.2.1, hk_.1.2.2.2.1, hk_.1.2.2.2.2.1, hk_.1.2.2.2.2.2.1, hk_.1.2.2.2.2.2.2.1, hk_.1.2.2.2.2.2.2.2.1, hk_.1.2.2.2.2.2.2.2.2⟩)); replace BK258 := Aside0.mk (blk_kept (kp_ BK258) hkp (fun hs_ => (fun e_ => (Kd.R_ne HO_9.out BK258.out (by decide)) e_) hs_)); replace BK288 := Aside0.mk (blk_kept (kp_ BK288) hkp (fun hs_ => (fun e_ => (Kd.R_ne HO_9.out BK288.out (by decide)) e_) hs_)); replace BK318 := Aside0.mk (blk_kept (kp_ BK318) hkp (fun hs_ => (fun e_ => (Kd.R_ne HO_9.out BK318.out (by decide)) e_) hs_)); replace HB := Aside0.mk (hb); replace HO_9 := Aside0.mk (Kd.R_reok rfl hy0 (fun k_ e_ => HO_9.out.1 k_ e_)); (try clear hb); (try clear hkp); (try clear hy0)))
        (try simp only [Act.put, List.setIfInBounds_toArray, List.set_cons_zero, List.set_cons_succ])
        go_cut [80] (fun v80 wc => ∃ (kq : Nat) (x80_81 : Bool), v80 = .bool x80_81 ∧ Aside0 (laws_FnExactEmptyBlocks.j1 kq l1 t287 x80_81 a0_0 a0_1 a0_2 l0_3 l0_4 l0_5 t275 t276 t277 t278 t281 t284 t305 t306 t307 t308 t311 t314 = some r) ∧ Aside0 (kq ≤ kj15) ∧ Aside0 (Kd.R (Kd.int .i64) 3 wc w.heap.size (fun k_ => some k_ ≠ ((.slice Ao32 t281.length co32) : Value).ownBlock ∧ some k_ ≠ ((.slice Ao33 t284.length co33) : Value).ownBlock ∧ some k_ ≠ ((.slice Ao52 t308.length co52) : Value).ownBlock ∧ some k_ ≠ ((.slice Ao53 t311.length co53) : Value).ownBlock ∧ some k_ ≠ ((.slice Ao54 t314.length co54) : Value).ownBlock) (.slice Ao31 t278.length co31) t278) ∧ Aside0 (Kd.R (Kd.int .i64) 3 wc w.heap.size (fun k_ => some k_ ≠ ((.slice Ao31 t278.length co31) : Value).ownBlock ∧ some k_ ≠ ((.slice Ao33 t284.length co33) : Value).ownBlock ∧ some k_ ≠ ((.slice Ao52 t308.length co52) : Value).ownBlock ∧ some k_ ≠ ((.slice Ao53 t311.length co53) : Value).ownBlock ∧ some k_ ≠ ((.slice Ao54 t314.length co54) : Value).ownBlock) (.slice Ao32 t281.length co32) t281) ∧ Aside0 (Kd.R (Kd.int .i64) 3 wc w.heap.size (fun k_ => some k_ ≠ ((.slice Ao31 t278.length co31) : Value).ownBlock ∧ some k_ ≠ ((.slice Ao32 t281.length co32) : Value).ownBlock ∧ some k_ ≠ ((.slice Ao52 t308.length co52) : Value).ownBlock ∧ some k_ ≠ ((.slice Ao53 t311.length co53) : Value).ownBlock ∧ some k_ ≠ ((.slice Ao54 t314.length co54) : Value).ownBlock) (.slice Ao33 t284.length co33) t284) ∧ Aside0 (Kd.R (Kd.int .i64) 3 wc w.heap.size (fun k_ => some k_ ≠ ((.slice Ao31 t278.length co31) : Value).ownBlock ∧ some k_ ≠ ((.slice Ao32 t281.length co32) : Value).ownBlock ∧ some k_ ≠ ((.slice Ao33 t284.length co33) : Value).ownBlock ∧ some k_ ≠ ((.slice Ao53 t311.length co53) : Value).ownBlock ∧ some k_ ≠ ((.slice Ao54 t314.length co54) : Value).ownBlock) (.slice Ao52 t308.length co52) t308) ∧ Aside0 (Kd.R (Kd.int .i64) 3 wc w.heap.size (fun k_ => some k_ ≠ ((.slice Ao31 t278.length co31) : Value).ownBlock ∧ some k_ ≠ ((.slice Ao32 t281.length co32) : Value).ownBlock ∧ some k_ ≠ ((.slice Ao33 t284.length co33) : Value).ownBlock ∧ some k_ ≠ ((.slice Ao52 t308.length co52) : Value).ownBlock ∧ some k_ ≠ ((.slice Ao54 t314.length co54) : Value).ownBlock) (.slice Ao53 t311.length co53) t311) ∧ Aside0 (Kd.R (Kd.int .i64) 3 wc w.heap.size (fun k_ => some k_ ≠ ((.slice Ao31 t278.length co31) : Value).ownBlock ∧ some k_ ≠ ((.slice Ao32 t281.length co32) : Value).ownBlock ∧ some k_ ≠ ((.slice Ao33 t284.length co33) : Value).ownBlock ∧ some k_ ≠ ((.slice Ao52 t308.length co52) : Value).ownBlock ∧ some k_ ≠ ((.slice Ao53 t311.length co53) : Value).ownBlock) (.slice Ao54 t314.length co54) t314) ∧ Aside0 (wc.heap[gb258]? = some (.cells #[.int .i64 a0_0, .int .i64 a0_1, .int .i64 a0_2, (.slice A0_3 l0_3.length c0_3), (.slice A0_4 l0_4.length c0_4), (.slice A0_5 l0_5.length c0_5)] 26 (0, 0))) ∧ Aside0 (wc.heap[gb288]? = some (.cells #[.int .i64 t275, .int .i64 t276, .int .i64 t277, (.slice Ao31 t278.length co31), (.slice Ao32 t281.length co32), (.slice Ao33 t284.length co33)] 30 (0, 0))) ∧ Aside0 (wc.heap[gb318]? = some (.cells #[.int .i64 t305, .int .i64 t306, .int .i64 t307, (.slice Ao52 t308.length co52), (.slice Ao53 t311.length co53), (.slice Ao54 t314.length co54)] 30 (0, 0))) ∧ Aside0 (Below w.heap.size w wc))
        case first =>
         have H := HC82.out
         clear HC82
         by_cases c97 : t341 < 0
         ·rw [if_pos c97] at H
          have c97b0 : decide (t341 < 0) = true := decide_eq_true c97
          clear c97
          (first | rw [c97b0] | (simp only [i64_w, i32_w]; rw [c97b0]) | skip)
          have H' := Aside0.mk H
          clear H
          go_wp2
          go_meet
          case rel => exact ⟨_, (true), (by first | rfl | (simp; done) | (simp [*]; done)), H', ⟨by have := HJ15.out; first | omega | exact Nat.le_refl _⟩, ⟨Kd.R_pp (Kd.R_mono HO_289003.out (fun _ hk => ⟨hk.2.1, ⟨hk.2.2.1, ⟨hk.2.2.2.2.2.2.1, ⟨hk.2.2.2.2.2.2.2.1, hk.2.2.2.2.2.2.2.2⟩⟩⟩⟩))⟩, ⟨Kd.R_pp (Kd.R_mono HO_289004.out (fun _ hk => ⟨hk.2.1, ⟨hk.2.2.1, ⟨hk.2.2.2.2.2.2.1, ⟨hk.2.2.2.2.2.2.2.1, hk.2.2.2.2.2.2.2.2⟩⟩⟩⟩))⟩, ⟨Kd.R_pp (Kd.R_mono HO_289005.out (fun _ hk => ⟨hk.2.1, ⟨hk.2.2.1, ⟨hk.2.2.2.2.2.2.1, ⟨hk.2.2.2.2.2.2.2.1, hk.2.2.2.2.2.2.2.2⟩⟩⟩⟩))⟩, ⟨Kd.R_pp (Kd.R_mono HO_319003.out (fun _ hk => ⟨hk.2.1, ⟨hk.2.2.1, ⟨hk.2.2.2.1, ⟨hk.2.2.2.2.2.2.2.1, hk.2.2.2.2.2.2.2.2⟩⟩⟩⟩))⟩, ⟨Kd.R_pp (Kd.R_mono HO_319004.out (fun _ hk => ⟨hk.2.1, ⟨hk.2.2.1, ⟨hk.2.2.2.1, ⟨hk.2.2.2.2.2.2.2.1, hk.2.2.2.2.2.2.2.2⟩⟩⟩⟩))⟩, ⟨Kd.R_pp (Kd.R_mono HO_319005.out (fun _ hk => ⟨hk.2.1, ⟨hk.2.2.1, ⟨hk.2.2.2.1, ⟨hk.2.2.2.2.2.2.2.1, hk.2.2.2.2.2.2.2.2⟩⟩⟩⟩))⟩, ⟨kp_ BK258⟩, ⟨kp_ BK288⟩, ⟨kp_ BK318⟩, ⟨hb_ HB⟩⟩
         ·rw [if_neg c97] at H
          have c97b0 : decide (t341 < 0) = false := decide_eq_false c97
          clear c97
          (first | rw [c97b0] | (simp only [i64_w, i32_w]; rw [c97b0]) | skip)
          replace H := Option.bind_eq_some_iff.mp H
          obtain ⟨t343, A980, H⟩ := H
          replace H : (if t343 = true then (laws_FnExactEmptyBlocks.j1 kj15 l1 t287 (t317 != t287) a0_0 a0_1 a0_2 l0_3 l0_4 l0_5 t275 t276 t277 t278 t281 t284 t305 t306 t307 t308 t311 t314) else (laws_FnExactEmptyBlocks.j1 kj15 l1 t287 true a0_0 a0_1 a0_2 l0_3 l0_4 l0_5 t275 t276 t277 t278 t281 t284 t305 t306 t307 t308 t311 t314)) = some r := H
          have A98 := Aside0.mk A980
          clear A980
          by_cases c99 : t343 = true
          ·subst c99
           have H1 : (laws_FnExactEmptyBlocks.j1 kj15 l1 t287 (t317 != t287) a0_0 a0_1 a0_2 l0_3 l0_4 l0_5 t275 t276 t277 t278 t281 t284 t305 t306 t307 t308 t311 t314) = some r := by rw [if_pos rfl] at H; exact H
           clear H
           have H := H1
           clear H1
           have H' := Aside0.mk H
           clear H
           have hnb100 := NB318_258.out
           have hnc100 := NB258_318.out
           have hnb101 := NB318_288.out
           have hnc101 := NB288_318.out
           have hcz102_0 : w96.cell? ⟨gb318, 0, none⟩ = some (.int .i64 t305) := (blk_cell BK318.out 0).trans rfl
           have hcz102_1 : w96.cell? ⟨gb318, 1, none⟩ = some (.int .i64 t306) := (blk_cell BK318.out 1).trans rfl
           have hcz102_2 : w96.cell? ⟨gb318, 2, none⟩ = some (.int .i64 t307) := (blk_cell BK318.out 2).trans rfl
           have hcz102_3 : w96.cell? ⟨gb318, 3, none⟩ = some (.slice Ao52 t308.length co52) := (blk_cell BK318.out 3).trans rfl
           have hcz102_4 : w96.cell? ⟨gb318, 4, none⟩ = some (.slice Ao53 t311.length co53) := (blk_cell BK318.out 4).trans rfl
           have hcz102_5 : w96.cell? ⟨gb318, 5, none⟩ = some (.slice Ao54 t314.length co54) := (blk_cell BK318.out 5).trans rfl
           have hfz102_0 := blk_frozen BK318.out 0
           have hfz102_1 := blk_frozen BK318.out 1
           have hfz102_2 := blk_frozen BK318.out 2
           have hfz102_3 := blk_frozen BK318.out 3
           have hfz102_4 := blk_frozen BK318.out 4
           have hfz102_5 := blk_frozen BK318.out 5
           have hnb103 := NB288_258.out
           have hnc103 := NB258_288.out
           have hcz104_0 : w96.cell? ⟨gb288, 0, none⟩ = some (.int .i64 t275) := (blk_cell BK288.out 0).trans rfl
           have hcz104_1 : w96.cell? ⟨gb288, 1, none⟩ = some (.int .i64 t276) := (blk_cell BK288.out 1).trans rfl
           have hcz104_2 : w96.cell? ⟨gb288, 2, none⟩ = some (.int .i64 t277) := (blk_cell BK288.out 2).trans rfl
           have hcz104_3 : w96.cell? ⟨gb288, 3, none⟩ = some (.slice Ao31 t278.length co31) := (blk_cell BK288.out 3).trans rfl
           have hcz104_4 : w96.cell? ⟨gb288, 4, none⟩ = some (.slice Ao32 t281.length co32) := (blk_cell BK288.out 4).trans rfl
           have hcz104_5 : w96.cell? ⟨gb288, 5, none⟩ = some (.slice Ao33 t284.length co33) := (blk_cell BK288.out 5).trans rfl
           have hfz104_0 := blk_frozen BK288.out 0
           have hfz104_1 := blk_frozen BK288.out 1
           have hfz104_2 := blk_frozen BK288.out 2
           have hfz104_3 := blk_frozen BK288.out 3
           have hfz104_4 := blk_frozen BK288.out 4
           have hfz104_5 := blk_frozen BK288.out 5
           go_wp2_with (first | (go_at_call 11; (with_reducible refine (laws_eqModel.calls kj15 t305 t306 t307 _ _ t308 _ _ t311 _ _ t314 t275 t276 t277 _ _ t278 _ _ t281 _ _ t284 true _ ?side1 ?side2 ?side3 ?side4 ?side5 ?side6 ?side7 ?side8 ?side9 ?side10 ?side11 ?side12 A98.out).mono ?_); (case side1 => exact Kd.C_o HO_319003); (case side2 => exact (Kd.R_reads' HO_319003.out).2.1); (case side3 => exact Kd.C_o HO_319004); (case side4 => exact (Kd.R_reads' HO_319004.out).2.1); (case side5 => exact Kd.C_o HO_319005); (case side6 => exact (Kd.R_reads' HO_319005.out).2.1); (case side7 => exact Kd.C_o HO_289003); (case side8 => exact (Kd.R_reads' HO_289003.out).2.1); (case side9 => exact Kd.C_o HO_289004); (case side10 => exact (Kd.R_reads' HO_289004.out).2.1); (case side11 => exact Kd.C_o HO_289005); (case side12 => exact (Kd.R_reads' HO_289005.out).2.1); rintro e w105 ⟨rfl, hb⟩; have n0_ := Aside0.mk (Kd.R_below (Kd.R_p HO_9) hb); have n1_ := Aside0.mk (Kd.R_below (Kd.R_p HO_289003) hb); have n2_ := Aside0.mk (Kd.R_below (Kd.R_p HO_289004) hb); have n3_ := Aside0.mk (Kd.R_below (Kd.R_p HO_289005) hb); have n4_ := Aside0.mk (Kd.R_below (Kd.R_p HO_302003) hb); have n5_ := Aside0.mk (Kd.R_below (Kd.R_p HO_302004) hb); have n6_ := Aside0.mk (Kd.R_below (Kd.R_p HO_302005) hb); have n7_ := Aside0.mk (Kd.R_below (Kd.R_p HO_319003) hb); have n8_ := Aside0.mk (Kd.R_below (Kd.R_p HO_319004) hb); have n9_ := Aside0.mk (Kd.R_below (Kd.R_p HO_319005) hb); have n10_ := Aside0.mk (blk_below (kp_ BK258) hb); have n11_ := Aside0.mk (blk_below (kp_ BK288) hb); have n12_ := Aside0.mk (blk_below (kp_ BK318) hb); have n13_ := Aside0.mk (below_step (hb_ HB) hb); clear HO_9; clear HO_289003; clear HO_289004; clear HO_289005; clear HO_302003; clear HO_302004; clear HO_302005; clear HO_319003; clear HO_319004; clear HO_319005; clear BK258; clear BK288; clear BK318; clear HB; have HO_9 := n0_; have HO_289003 := n1_; have HO_289004 := n2_; have HO_289005 := n3_; have HO_302003 := n4_; have HO_302004 := n5_; have HO_302005 := n6_; have HO_319003 := n7_; have HO_319004 := n8_; have HO_319005 := n9_; have BK258 := n10_; have BK288 := n11_; have BK318 := n12_; have HB := n13_; clear n0_ n1_ n2_ n3_ n4_ n5_ n6_ n7_ n8_ n9_ n10_ n11_ n12_ n13_; (try clear hb); (try clear hb2); (try clear hk); (try clear hi)))
           go_meet
           case rel => exact ⟨_, ((t317 != t287)), (by first | rfl | (simp; done) | (simp [*]; done)), H', ⟨by have := HJ15.out; first | omega | exact Nat.le_refl _⟩, ⟨Kd.R_pp (Kd.R_mono HO_289003.out (fun _ hk => ⟨hk.2.1, ⟨hk.2.2.1, ⟨hk.2.2.2.2.2.2.1, ⟨hk.2.2.2.2.2.2.2.1, hk.2.2.2.2.2.2.2.2⟩⟩⟩⟩))⟩, ⟨Kd.R_pp (Kd.R_mono HO_289004.out (fun _ hk => ⟨hk.2.1, ⟨hk.2.2.1, ⟨hk.2.2.2.2.2.2.1, ⟨hk.2.2.2.2.2.2.2.1, hk.2.2.2.2.2.2.2.2⟩⟩⟩⟩))⟩, ⟨Kd.R_pp (Kd.R_mono HO_289005.out (fun _ hk => ⟨hk.2.1, ⟨hk.2.2.1, ⟨hk.2.2.2.2.2.2.1, ⟨hk.2.2.2.2.2.2.2.1, hk.2.2.2.2.2.2.2.2⟩⟩⟩⟩))⟩, ⟨Kd.R_pp (Kd.R_mono HO_319003.out (fun _ hk => ⟨hk.2.1, ⟨hk.2.2.1, ⟨hk.2.2.2.1, ⟨hk.2.2.2.2.2.2.2.1, hk.2.2.2.2.2.2.2.2⟩⟩⟩⟩))⟩, ⟨Kd.R_pp (Kd.R_mono HO_319004.out (fun _ hk => ⟨hk.2.1, ⟨hk.2.2.1, ⟨hk.2.2.2.1, ⟨hk.2.2.2.2.2.2.2.1, hk.2.2.2.2.2.2.2.2⟩⟩⟩⟩))⟩, ⟨Kd.R_pp (Kd.R_mono HO_319005.out (fun _ hk => ⟨hk.2.1, ⟨hk.2.2.1, ⟨hk.2.2.2.1, ⟨hk.2.2.2.2.2.2.2.1, hk.2.2.2.2.2.2.2.2⟩⟩⟩⟩))⟩, ⟨kp_ BK258⟩, ⟨kp_ BK288⟩, ⟨kp_ BK318⟩, ⟨hb_ HB⟩⟩
          ·replace c99 := Bool.eq_false_iff.mpr c99
           subst c99
           have H1 : (laws_FnExactEmptyBlocks.j1 kj15 l1 t287 true a0_0 a0_1 a0_2 l0_3 l0_4 l0_5 t275 t276 t277 t278 t281 t284 t305 t306 t307 t308 t311 t314) = some r := by rw [if_neg (show ¬ (false = true) by decide)] at H; exact H
           clear H
           have H := H1
           clear H1
           have H' := Aside0.mk H
           clear H
           have hnb106 := NB318_258.out
           have hnc106 := NB258_318.out
           have hnb107 := NB318_288.out
           have hnc107 := NB288_318.out
           have hcz108_0 : w96.cell? ⟨gb318, 0, none⟩ = some (.int .i64 t305) := (blk_cell BK318.out 0).trans rfl
           have hcz108_1 : w96.cell? ⟨gb318, 1, none⟩ = some (.int .i64 t306) := (blk_cell BK318.out 1).trans rfl
           have hcz108_2 : w96.cell? ⟨gb318, 2, none⟩ = some (.int .i64 t307) := (blk_cell BK318.out 2).trans rfl
           have hcz108_3 : w96.cell? ⟨gb318, 3, none⟩ = some (.slice Ao52 t308.length co52) := (blk_cell BK318.out 3).trans rfl
           have hcz108_4 : w96.cell? ⟨gb318, 4, none⟩ = some (.slice Ao53 t311.length co53) := (blk_cell BK318.out 4).trans rfl
           have hcz108_5 : w96.cell? ⟨gb318, 5, none⟩ = some (.slice Ao54 t314.length co54) := (blk_cell BK318.out 5).trans rfl
           have hfz108_0 := blk_frozen BK318.out 0
           have hfz108_1 := blk_frozen BK318.out 1
           have hfz108_2 := blk_frozen BK318.out 2
           have hfz108_3 := blk_frozen BK318.out 3
           have hfz108_4 := blk_frozen BK318.out 4
           have hfz108_5 := blk_frozen BK318.out 5
           have hnb109 := NB288_258.out
           have hnc109 := NB258_288.out
           have hcz110_0 : w96.cell? ⟨gb288, 0, none⟩ = some (.int .i64 t275) := (blk_cell BK288.out 0).trans rfl
           have hcz110_1 : w96.cell? ⟨gb288, 1, none⟩ = some (.int .i64 t276) := (blk_cell BK288.out 1).trans rfl
           have hcz110_2 : w96.cell? ⟨gb288, 2, none⟩ = some (.int .i64 t277) := (blk_cell BK288.out 2).trans rfl
           have hcz110_3 : w96.cell? ⟨gb288, 3, none⟩ = some (.slice Ao31 t278.length co31) := (blk_cell BK288.out 3).trans rfl
           have hcz110_4 : w96.cell? ⟨gb288, 4, none⟩ = some (.slice Ao32 t281.length co32) := (blk_cell BK288.out 4).trans rfl
           have hcz110_5 : w96.cell? ⟨gb288, 5, none⟩ = some (.slice Ao33 t284.length co33) := (blk_cell BK288.out 5).trans rfl
           have hfz110_0 := blk_frozen BK288.out 0
           have hfz110_1 := blk_frozen BK288.out 1
           have hfz110_2 := blk_frozen BK288.out 2
           have hfz110_3 := blk_frozen BK288.out 3
           have hfz110_4 := blk_frozen BK288.out 4
           have hfz110_5 := blk_frozen BK288.out 5
           go_wp2_with (first | (go_at_call 11; (with_reducible refine (laws_eqModel.calls kj15 t305 t306 t307 _ _ t308 _ _ t311 _ _ t314 t275 t276 t277 _ _ t278 _ _ t281 _ _ t284 false _ ?side1 ?side2 ?side3 ?side4 ?side5 ?side6 ?side7 ?side8 ?side9 ?side10 ?side11 ?side12 A98.out).mono ?_); (case side1 => exact Kd.C_o HO_319003); (case side2 => exact (Kd.R_reads' HO_319003.out).2.1); (case side3 => exact Kd.C_o HO_319004); (case side4 => exact (Kd.R_reads' HO_319004.out).2.1); (case side5 => exact Kd.C_o HO_319005); (case side6 => exact (Kd.R_reads' HO_319005.out).2.1); (case side7 => exact Kd.C_o HO_289003); (case side8 => exact (Kd.R_reads' HO_289003.out).2.1); (case side9 => exact Kd.C_o HO_289004); (case side10 => exact (Kd.R_reads' HO_289004.out).2.1); (case side11 => exact Kd.C_o HO_289005); (case side12 => exact (Kd.R_reads' HO_289005.out).2.1); rintro e w111 ⟨rfl, hb⟩; have n0_ := Aside0.mk (Kd.R_below (Kd.R_p HO_9) hb); have n1_ := Aside0.mk (Kd.R_below (Kd.R_p HO_289003) hb); have n2_ := Aside0.mk (Kd.R_below (Kd.R_p HO_289004) hb); have n3_ := Aside0.mk (Kd.R_below (Kd.R_p HO_289005) hb); have n4_ := Aside0.mk (Kd.R_below (Kd.R_p HO_302003) hb); have n5_ := Aside0.mk (Kd.R_below (Kd.R_p HO_302004) hb); have n6_ := Aside0.mk (Kd.R_below (Kd.R_p HO_302005) hb); have n7_ := Aside0.mk (Kd.R_below (Kd.R_p HO_319003) hb); have n8_ := Aside0.mk (Kd.R_below (Kd.R_p HO_319004) hb); have n9_ := Aside0.mk (Kd.R_below (Kd.R_p HO_319005) hb); have n10_ := Aside0.mk (blk_below (kp_ BK258) hb); have n11_ := Aside0.mk (blk_below (kp_ BK288) hb); have n12_ := Aside0.mk (blk_below (kp_ BK318) hb); have n13_ := Aside0.mk (below_step (hb_ HB) hb); clear HO_9; clear HO_289003; clear HO_289004; clear HO_289005; clear HO_302003; clear HO_302004; clear HO_302005; clear HO_319003; clear HO_319004; clear HO_319005; clear BK258; clear BK288; clear BK318; clear HB; have HO_9 := n0_; have HO_289003 := n1_; have HO_289004 := n2_; have HO_289005 := n3_; have HO_302003 := n4_; have HO_302004 := n5_; have HO_302005 := n6_; have HO_319003 := n7_; have HO_319004 := n8_; have HO_319005 := n9_; have BK258 := n10_; have BK288 := n11_; have BK318 := n12_; have HB := n13_; clear n0_ n1_ n2_ n3_ n4_ n5_ n6_ n7_ n8_ n9_ n10_ n11_ n12_ n13_; (try clear hb); (try clear hb2); (try clear hk); (try clear hi)))
           go_meet
           case rel => exact ⟨_, (true), (by first | rfl | (simp; done) | (simp [*]; done)), H', ⟨by have := HJ15.out; first | omega | exact Nat.le_refl _⟩, ⟨Kd.R_pp (Kd.R_mono HO_289003.out (fun _ hk => ⟨hk.2.1, ⟨hk.2.2.1, ⟨hk.2.2.2.2.2.2.1, ⟨hk.2.2.2.2.2.2.2.1, hk.2.2.2.2.2.2.2.2⟩⟩⟩⟩))⟩, ⟨Kd.R_pp (Kd.R_mono HO_289004.out (fun _ hk => ⟨hk.2.1, ⟨hk.2.2.1, ⟨hk.2.2.2.2.2.2.1, ⟨hk.2.2.2.2.2.2.2.1, hk.2.2.2.2.2.2.2.2⟩⟩⟩⟩))⟩, ⟨Kd.R_pp (Kd.R_mono HO_289005.out (fun _ hk => ⟨hk.2.1, ⟨hk.2.2.1, ⟨hk.2.2.2.2.2.2.1, ⟨hk.2.2.2.2.2.2.2.1, hk.2.2.2.2.2.2.2.2⟩⟩⟩⟩))⟩, ⟨Kd.R_pp (Kd.R_mono HO_319003.out (fun _ hk => ⟨hk.2.1, ⟨hk.2.2.1, ⟨hk.2.2.2.1, ⟨hk.2.2.2.2.2.2.2.1, hk.2.2.2.2.2.2.2.2⟩⟩⟩⟩))⟩, ⟨Kd.R_pp (Kd.R_mono HO_319004.out (fun _ hk => ⟨hk.2.1, ⟨hk.2.2.1, ⟨hk.2.2.2.1, ⟨hk.2.2.2.2.2.2.2.1, hk.2.2.2.2.2.2.2.2⟩⟩⟩⟩))⟩, ⟨Kd.R_pp (Kd.R_mono HO_319005.out (fun _ hk => ⟨hk.2.1, ⟨hk.2.2.1, ⟨hk.2.2.2.1, ⟨hk.2.2.2.2.2.2.2.1, hk.2.2.2.2.2.2.2.2⟩⟩⟩⟩))⟩, ⟨kp_ BK258⟩, ⟨kp_ BK288⟩, ⟨kp_ BK318⟩, ⟨hb_ HB⟩⟩
        case rest =>
         clear HC82
         (try clear c1); (try clear c2); (try clear p2); (try clear c3); (try clear c3b0); (try clear c3b1); (try clear c4); (try clear c5); (try clear c6); (try clear c6b0); (try clear c7); (try clear c9); (try clear c10); (try clear c11); (try clear c12); (try clear c14); (try clear c15); (try clear c16); (try clear c17); (try clear c18); (try clear c29); (try clear c37); (try clear c38); (try clear c48); (try clear c49); (try clear c50); (try clear c56); (try clear c57); (try clear c58); (try clear c59); (try clear c61); (try clear c62); (try clear c65); (try clear c66); (try clear c67); (try clear c69); (try clear c70); (try clear c73); (try clear c76); (try clear c79); (try clear c91); (try clear c92); (try clear c93); (try clear c97); (try clear c97b0); (try clear c99); (try clear c100); (try clear c101); (try clear c103); (try clear c106); (try clear c107); (try clear c109); (try clear hcz94_0); (try clear hcz94_1); (try clear hcz94_2); (try clear hcz94_3); (try clear hcz94_4); (try clear hcz94_5); (try clear hfz94_0); (try clear hfz94_1); (try clear hfz94_2); (try clear hfz94_3); (try clear hfz94_4); (try clear hfz94_5)
         obtain ⟨kq, x80_81, rfl, HA, HJ81, HO_289003, HO_289004, HO_289005, HO_319003, HO_319004, HO_319005, BK258, BK288, BK318, HB⟩ := hcut
         cases kq with
         | zero => exact absurd HA.out (by simp [laws_FnExactEmptyBlocks.j1])
         | succ kj81 =>
          have H := HA.out
          clear HA
          simp only [laws_FnExactEmptyBlocks.j1] at H
          by_cases c112 : x80_81 = true
          ·subst c112
           have H1 : (some false) = some r := by rw [if_pos rfl] at H; exact H
           clear H
           have H := H1
           clear H1
           obtain rfl := Option.some.inj H
           go_wp2
           go_ret
           exact ⟨by first | rfl | (simp [errW_none, errW_some] <;> rfl) | (simp [*, errW_none, errW_some] <;> rfl), hb_ HB⟩
          ·replace c112 := Bool.eq_false_iff.mpr c112
           subst c112
           have H1 : ((laws_markModel.f kj81 t305 t306 t307 t308 t311 t314 1).bind fun bt344 => ((laws_heldModel.f kj81 t305 t306 t307 bt344.2.1 bt344.2.2.1 bt344.2.2.2 1).bind fun t348 => (if t348 < 0 then (some false) else (if t348 = bt344.1 then ((laws_toModel.f kj81 a0_0 a0_1 a0_2 l0_3 l0_4 l0_5).bind fun bt349 => ((laws_toIntS.f kj81 l1).bind fun t361 => ((impl_EmptyBlocks.f kj81 bt349.1 bt349.2.1 bt349.2.2.1 bt349.2.2.2.1 bt349.2.2.2.2.1 bt349.2.2.2.2.2 t361).bind fun bt364 => ((laws_eqModel.f kj81 bt364.1 bt364.2.1 bt364.2.2.1 bt364.2.2.2.1 bt364.2.2.2.2.1 bt364.2.2.2.2.2.1 t275 t276 t277 t278 t281 t284).bind fun t378 => (if t378 = true then (laws_FnExactEmptyBlocks.j2 kj81 bt344.1 (bt364.2.2.2.2.2.2 != t287) t305 t306 t307 bt344.2.1 bt344.2.2.1 bt344.2.2.2) else (laws_FnExactEmptyBlocks.j2 kj81 bt344.1 true t305 t306 t307 bt344.2.1 bt344.2.2.1 bt344.2.2.2)))))) else (some false))))) = some r := by rw [if_neg (show ¬ (false = true) by decide)] at H; exact H
           clear H
           have H := H1
           clear H1
           replace H := Option.bind_eq_some_iff.mp H
           obtain ⟨⟨t344, t345, t346, t347⟩, A1130, H⟩ := H
           replace H : ((laws_heldModel.f kj81 t305 t306 t307 t345 t346 t347 1).bind fun t348 => (if t348 < 0 then (some false) else (if t348 = t344 then ((laws_toModel.f kj81 a0_0 a0_1 a0_2 l0_3 l0_4 l0_5).bind fun bt349 => ((laws_toIntS.f kj81 l1).bind fun t361 => ((impl_EmptyBlocks.f kj81 bt349.1 bt349.2.1 bt349.2.2.1 bt349.2.2.2.1 bt349.2.2.2.2.1 bt349.2.2.2.2.2 t361).bind fun bt364 => ((laws_eqModel.f kj81 bt364.1 bt364.2.1 bt364.2.2.1 bt364.2.2.2.1 bt364.2.2.2.2.1 bt364.2.2.2.2.2.1 t275 t276 t277 t278 t281 t284).bind fun t378 => (if t378 = true then (laws_FnExactEmptyBlocks.j2 kj81 t344 (bt364.2.2.2.2.2.2 != t287) t305 t306 t307 t345 t346 t347) else (laws_FnExactEmptyBlocks.j2 kj81 t344 true t305 t306 t307 t345 t346 t347)))))) else (some false)))) = some r := H
           have A113 := Aside0.mk A1130
           clear A1130
           replace H := Option.bind_eq_some_iff.mp H
           obtain ⟨t348, A1140, H⟩ := H
           replace H : (if t348 < 0 then (some false) else (if t348 = t344 then ((laws_toModel.f kj81 a0_0 a0_1 a0_2 l0_3 l0_4 l0_5).bind fun bt349 => ((laws_toIntS.f kj81 l1).bind fun t361 => ((impl_EmptyBlocks.f kj81 bt349.1 bt349.2.1 bt349.2.2.1 bt349.2.2.2.1 bt349.2.2.2.2.1 bt349.2.2.2.2.2 t361).bind fun bt364 => ((laws_eqModel.f kj81 bt364.1 bt364.2.1 bt364.2.2.1 bt364.2.2.2.1 bt364.2.2.2.2.1 bt364.2.2.2.2.2.1 t275 t276 t277 t278 t281 t284).bind fun t378 => (if t378 = true then (laws_FnExactEmptyBlocks.j2 kj81 t344 (bt364.2.2.2.2.2.2 != t287) t305 t306 t307 t345 t346 t347) else (laws_FnExactEmptyBlocks.j2 kj81 t344 true t305 t306 t307 t345 t346 t347)))))) else (some false))) = some r := H
           have A114 := Aside0.mk A1140
           clear A1140
           by_cases c115 : t348 < 0
           ·rw [if_pos c115] at H
            have c115b0 : decide (t348 < 0) = true := decide_eq_true c115
            clear c115
            obtain rfl := Option.some.inj H
            have hnb116 := NB318_258.out
            have hnc116 := NB258_318.out
            have hnb117 := NB318_288.out
            have hnc117 := NB288_318.out
            have hcz118_0 : wc.cell? ⟨gb318, 0, none⟩ = some (.int .i64 t305) := (blk_cell BK318.out 0).trans rfl
            have hcz118_1 : wc.cell? ⟨gb318, 1, none⟩ = some (.int .i64 t306) := (blk_cell BK318.out 1).trans rfl
            have hcz118_2 : wc.cell? ⟨gb318, 2, none⟩ = some (.int .i64 t307) := (blk_cell BK318.out 2).trans rfl
            have hcz118_3 : wc.cell? ⟨gb318, 3, none⟩ = some (.slice Ao52 t308.length co52) := (blk_cell BK318.out 3).trans rfl
            have hcz118_4 : wc.cell? ⟨gb318, 4, none⟩ = some (.slice Ao53 t311.length co53) := (blk_cell BK318.out 4).trans rfl
            have hcz118_5 : wc.cell? ⟨gb318, 5, none⟩ = some (.slice Ao54 t314.length co54) := (blk_cell BK318.out 5).trans rfl
            have hfz118_0 := blk_frozen BK318.out 0
            have hfz118_1 := blk_frozen BK318.out 1
            have hfz118_2 := blk_frozen BK318.out 2
            have hfz118_3 := blk_frozen BK318.out 3
            have hfz118_4 := blk_frozen BK318.out 4
            have hfz118_5 := blk_frozen BK318.out 5
            (try clear BK258); (try clear GW258); (try clear GE258); (try clear NB258_288); (try clear NB288_258); (try clear NB258_318); (try clear NB318_258); (try clear BK288); (try clear GW288); (try clear GE288); (try clear NB288_258); (try clear NB258_288); (try clear NB288_318); (try clear NB318_288)
            go_wp2_with (first | ((with_reducible refine gate_callee (f := 12) rfl ?_); refine gl_ (some 83) Try.func12 #[.agg #[.int .i64 t305, .int .i64 t306, .int .i64 t307, .slice Ao52 t308.length co52, .slice Ao53 t311.length co53, .slice Ao54 t314.length co54], .int .i64 1] rfl rfl rfl ?_; (with_reducible refine (laws_markModel.calls kj81 t305 t306 t307 (fun k_ => some k_ = (.slice Ao52 t308.length co52 : Value).ownBlock) (.slice Ao52 t308.length co52) t308 (fun k_ => some k_ = (.slice Ao53 t311.length co53 : Value).ownBlock) (.slice Ao53 t311.length co53) t311 (fun k_ => some k_ = (.slice Ao54 t314.length co54 : Value).ownBlock) (.slice Ao54 t314.length co54) t314 1 t344 t345 t346 t347 w _ ?side1 ?side2 ?side3 ?side4 ?side5 ?side6 ?side7 ?side8 ?side9 ?side10 A113.out).mono ?_); (case side1 => repeat (first | (with_reducible first | exact HB.out | apply below_alloc | apply pw_below_drewN | apply below_drew1 | refine below_set ?_ GE318.out) | exact HB.out)); (case side2 => exact Kd.R_tight rfl HO_319003.out); (case side3 => exact fun k_ e_ => (HO_319003.out.1 k_ e_.symm).2.2.2.1); (case side4 => exact fun k_ e_ => (HO_319003.out.1 k_ e_.symm).2.2.2.2); (case side5 => exact Kd.R_tight rfl HO_319004.out); (case side6 => exact fun k_ e_ => (HO_319004.out.1 k_ e_.symm).2.2.2.1); (case side7 => exact fun k_ e_ => (HO_319004.out.1 k_ e_.symm).2.2.2.2); (case side8 => exact Kd.R_tight rfl HO_319005.out); (case side9 => exact fun k_ e_ => (HO_319005.out.1 k_ e_.symm).2.2.2.1); (case side10 => exact fun k_ e_ => (HO_319005.out.1 k_ e_.symm).2.2.2.2); rintro e w119 ⟨rfl, hy0, hy1, hy2, hb, hkp⟩; refine ⟨_, rfl, ?_⟩; replace HO_289003 := Aside0.mk (Kd.R_mono (ok' := fun k_ => some k_ ≠ (.slice Ao32 t281.length co32 : Value).ownBlock ∧ some k_ ≠ (.slice Ao33 t284.length co33 : Value).ownBlock ∧ some k_ ≠ (.slice Ao52 t308.length co52 : Value).ownBlock ∧ some k_ ≠ (.slice Ao53 t311.length co53 : Value).ownBlock ∧ some k_ ≠ (.slice Ao54 t314.length co54 : Value).ownBlock) (Kd.R_keptB (HO_289003.out) hkp (fun k_ hk_ hs_ => Or.elim hs_ (fun e_ => (hk_.2.2.1) e_) (fun e_ => Or.elim e_ (fun e_ => (hk_.2.2.2.1) e_) (fun e_ => (hk_.2.2.2.2) e_)))) (fun k_ hk_ => ⟨hk_.1.1, hk_.1.2.1, hk_.1.2.2.1, hk_.1.2.2.2.1, hk_.1.2.2.2.2⟩)); replace HO_289004 := Aside0.mk (Kd.R_mono (ok' := fun k_ => some k_ ≠ (.slice Ao31 t278.length co31 : Value).ownBlock ∧ some k_ ≠ (.slice Ao33 t284.length co33 : Value).ownBlock ∧ some k_ ≠ (.slice Ao52 t308.length co52 : Value).ownBlock ∧ some k_ ≠ (.slice Ao53 t311.length co53 : Value).ownBlock ∧ some k_ ≠ (.slice Ao54 t314.length co54 : Value).ownBlock) (Kd.R_keptB (HO_289004.out) hkp (fun k_ hk_ hs_ => Or.elim hs_ (fun e_ => (hk_.2.2.1) e_) (fun e_ => Or.elim e_ (fun e_ => (hk_.2.2.2.1) e_) (fun e_ => (hk_.2.2.2.2) e_)))) (fun k_ hk_ => ⟨hk_.1.1, hk_.1.2.1, hk_.1.2.2.1, hk_.1.2.2.2.1, hk_.1.2.2.2.2⟩)); replace HO_289005 := Aside0.mk (Kd.R_mono (ok' := fun k_ => some k_ ≠ (.slice Ao31 t278.length co31 : Value).ownBlock ∧ some k_ ≠ (.slice Ao32 t281.length co32 : Value).ownBlock ∧ some k_ ≠ (.slice Ao52 t308.length co52 : Value).ownBlock ∧ some k_ ≠ (.slice Ao53 t311.length co53 : Value).ownBlock ∧ some k_ ≠ (.slice Ao54 t314.length co54 : Value).ownBlock) (Kd.R_keptB (HO_289005.out) hkp (fun k_ hk_ hs_ => Or.elim hs_ (fun e_ => (hk_.2.2.1) e_) (fun e_ => Or.elim e_ (fun e_ => (hk_.2.2.2.1) e_) (fun e_ => (hk_.2.2.2.2) e_)))) (fun k_ hk_ => ⟨hk_.1.1, hk_.1.2.1, hk_.1.2.2.1, hk_.1.2.2.2.1, hk_.1.2.2.2.2⟩)); replace BK318 := Aside0.mk (blk_kept (kp_ BK318) hkp (fun hs_ => Or.elim hs_ (fun e_ => (fun e_ => (Kd.R_ne HO_319003.out BK318.out (by decide)) e_) e_) (fun e_ => Or.elim e_ (fun e_ => (fun e_ => (Kd.R_ne HO_319004.out BK318.out (by decide)) e_) e_) (fun e_ => (fun e_ => (Kd.R_ne HO_319005.out BK318.out (by decide)) e_) e_)))); replace HB := Aside0.mk (hb); replace HO_319003 := Aside0.mk (Kd.R_reok rfl hy0 (fun k_ e_ => HO_319003.out.1 k_ e_)); replace HO_319004 := Aside0.mk (Kd.R_reok rfl hy1 (fun k_ e_ => HO_319004.out.1 k_ e_)); replace HO_319005 := Aside0.mk (Kd.R_reok rfl hy2 (fun k_ e_ => HO_319005.out.1 k_ e_)); (try clear hb); (try clear hkp); (try clear hy0); (try clear hy1); (try clear hy2); obtain ⟨hcz120_0, hcz120_1, hcz120_2, hcz120_3, hcz120_4, hcz120_5, hfz120_0, hfz120_1, hfz120_2, hfz120_3, hfz120_4, hfz120_5⟩ := bx6 BK318) | ((with_reducible refine gate_callee (f := 13) rfl ?_); refine gl_ (some 86) Try.func13 #[.agg #[.int .i64 t305, .int .i64 t306, .int .i64 t307, .slice Ao52 t345.length co52, .slice Ao53 t346.length co53, .slice Ao54 t347.length co54], .int .i64 1] rfl rfl rfl ?_ (by (try simp only [List.map_toArray, List.map_cons, List.map_nil]); first | done | (rw [show t345.length = t308.length from (Kd.R_reads' HO_319003.out).1.symm, show t346.length = t311.length from (Kd.R_reads' HO_319004.out).1.symm, show t347.length = t314.length from (Kd.R_reads' HO_319005.out).1.symm] <;> rfl) | rfl | (simp only [List.length_drop, List.length_take]; rfl)); (with_reducible refine (laws_heldModel.calls kj81 t305 t306 t307 _ _ t345 _ _ t346 _ _ t347 1 t348 _ ?side1 ?side2 ?side3 ?side4 ?side5 ?side6 A114.out).mono ?_); (case side1 => exact Kd.C_o HO_319003); (case side2 => rw [show t345.length = t308.length from (Kd.R_reads' HO_319003.out).1.symm]; exact (Kd.R_reads' HO_319003.out).2.1); (case side3 => exact Kd.C_o HO_319004); (case side4 => rw [show t346.length = t311.length from (Kd.R_reads' HO_319004.out).1.symm]; exact (Kd.R_reads' HO_319004.out).2.1); (case side5 => exact Kd.C_o HO_319005); (case side6 => rw [show t347.length = t314.length from (Kd.R_reads' HO_319005.out).1.symm]; exact (Kd.R_reads' HO_319005.out).2.1); rintro e w121 ⟨rfl, hb⟩; refine ⟨_, rfl, ?_⟩; replace HO_289003 := Kd.R_b HO_289003 hb; replace HO_289004 := Kd.R_b HO_289004 hb; replace HO_289005 := Kd.R_b HO_289005 hb; replace HO_319003 := Kd.R_b HO_319003 hb; replace HO_319004 := Kd.R_b HO_319004 hb; replace HO_319005 := Kd.R_b HO_319005 hb; replace BK318 := kb_ BK318 hb; replace HB := hbs_ HB hb; (try clear hb); (try clear hb2); (try clear hk); (try clear hi)))
            go_ret
            exact ⟨by first | rfl | (simp [errW_none, errW_some] <;> rfl) | (simp [*, errW_none, errW_some] <;> rfl), hb_ HB⟩
           ·rw [if_neg c115] at H
            have c115b0 : decide (t348 < 0) = false := decide_eq_false c115
            clear c115
            by_cases c122 : t348 = t344
            ·rw [if_pos c122] at H
             have c122b0 : (t348 == t344) = true := beq_iff_eq.mpr c122
             have c122b1 : (t348 != t344) = false := bne_eq_false_iff_eq.mpr c122
             clear c122
             replace H := Option.bind_eq_some_iff.mp H
             obtain ⟨⟨t349, t350, t351, t352, t355, t358⟩, A1230, H⟩ := H
             replace H : ((laws_toIntS.f kj81 l1).bind fun t361 => ((impl_EmptyBlocks.f kj81 t349 t350 t351 t352 t355 t358 t361).bind fun bt364 => ((laws_eqModel.f kj81 bt364.1 bt364.2.1 bt364.2.2.1 bt364.2.2.2.1 bt364.2.2.2.2.1 bt364.2.2.2.2.2.1 t275 t276 t277 t278 t281 t284).bind fun t378 => (if t378 = true then (laws_FnExactEmptyBlocks.j2 kj81 t344 (bt364.2.2.2.2.2.2 != t287) t305 t306 t307 t345 t346 t347) else (laws_FnExactEmptyBlocks.j2 kj81 t344 true t305 t306 t307 t345 t346 t347))))) = some r := H
             have A123 := Aside0.mk A1230
             clear A1230
             replace H := Option.bind_eq_some_iff.mp H
             obtain ⟨t361, A1240, H⟩ := H
             replace H : ((impl_EmptyBlocks.f kj81 t349 t350 t351 t352 t355 t358 t361).bind fun bt364 => ((laws_eqModel.f kj81 bt364.1 bt364.2.1 bt364.2.2.1 bt364.2.2.2.1 bt364.2.2.2.2.1 bt364.2.2.2.2.2.1 t275 t276 t277 t278 t281 t284).bind fun t378 => (if t378 = true then (laws_FnExactEmptyBlocks.j2 kj81 t344 (bt364.2.2.2.2.2.2 != t287) t305 t306 t307 t345 t346 t347) else (laws_FnExactEmptyBlocks.j2 kj81 t344 true t305 t306 t307 t345 t346 t347)))) = some r := H
             have A124 := Aside0.mk A1240
             clear A1240
             replace H := Option.bind_eq_some_iff.mp H
             obtain ⟨⟨t364, t365, t366, t367, t370, t373, t376⟩, A1250, H⟩ := H
             replace H : ((laws_eqModel.f kj81 t364 t365 t366 t367 t370 t373 t275 t276 t277 t278 t281 t284).bind fun t378 => (if t378 = true then (laws_FnExactEmptyBlocks.j2 kj81 t344 (t376 != t287) t305 t306 t307 t345 t346 t347) else (laws_FnExactEmptyBlocks.j2 kj81 t344 true t305 t306 t307 t345 t346 t347))) = some r := H
             have A125 := Aside0.mk A1250
             clear A1250
             have HC126 := Aside0.mk H
             clear H
             have hnb127 := NB318_258.out
             have hnc127 := NB258_318.out
             have hnb128 := NB318_288.out
             have hnc128 := NB288_318.out
             have hcz129_0 : wc.cell? ⟨gb318, 0, none⟩ = some (.int .i64 t305) := (blk_cell BK318.out 0).trans rfl
             have hcz129_1 : wc.cell? ⟨gb318, 1, none⟩ = some (.int .i64 t306) := (blk_cell BK318.out 1).trans rfl
             have hcz129_2 : wc.cell? ⟨gb318, 2, none⟩ = some (.int .i64 t307) := (blk_cell BK318.out 2).trans rfl
             have hcz129_3 : wc.cell? ⟨gb318, 3, none⟩ = some (.slice Ao52 t308.length co52) := (blk_cell BK318.out 3).trans rfl
             have hcz129_4 : wc.cell? ⟨gb318, 4, none⟩ = some (.slice Ao53 t311.length co53) := (blk_cell BK318.out 4).trans rfl
             have hcz129_5 : wc.cell? ⟨gb318, 5, none⟩ = some (.slice Ao54 t314.length co54) := (blk_cell BK318.out 5).trans rfl
             have hfz129_0 := blk_frozen BK318.out 0
             have hfz129_1 := blk_frozen BK318.out 1
             have hfz129_2 := blk_frozen BK318.out 2
             have hfz129_3 := blk_frozen BK318.out 3
             have hfz129_4 := blk_frozen BK318.out 4
             have hfz129_5 := blk_frozen BK318.out 5
             go_upto_region 31 with (first | ((with_reducible refine gate_callee (f := 12) rfl ?_); refine gl_ (some 83) Try.func12 #[.agg #[.int .i64 t305, .int .i64 t306, .int .i64 t307, .slice Ao52 t308.length co52, .slice Ao53 t311.length co53, .slice Ao54 t314.length co54], .int .i64 1] rfl rfl rfl ?_; (with_reducible refine (laws_markModel.calls kj81 t305 t306 t307 (fun k_ => some k_ = (.slice Ao52 t308.length co52 : Value).ownBlock) (.slice Ao52 t308.length co52) t308 (fun k_ => some k_ = (.slice Ao53 t311.length co53 : Value).ownBlock) (.slice Ao53 t311.length co53) t311 (fun k_ => some k_ = (.slice Ao54 t314.length co54 : Value).ownBlock) (.slice Ao54 t314.length co54) t314 1 t344 t345 t346 t347 w _ ?side1 ?side2 ?side3 ?side4 ?side5 ?side6 ?side7 ?side8 ?side9 ?side10 A113.out).mono ?_); (case side1 => repeat (first | (with_reducible first | exact HB.out | apply below_alloc | apply pw_below_drewN | apply below_drew1 | refine below_set ?_ GE258.out | refine below_set ?_ GE288.out | refine below_set ?_ GE318.out) | exact HB.out)); (case side2 => exact Kd.R_tight rfl HO_319003.out); (case side3 => exact fun k_ e_ => (HO_319003.out.1 k_ e_.symm).2.2.2.1); (case side4 => exact fun k_ e_ => (HO_319003.out.1 k_ e_.symm).2.2.2.2); (case side5 => exact Kd.R_tight rfl HO_319004.out); (case side6 => exact fun k_ e_ => (HO_319004.out.1 k_ e_.symm).2.2.2.1); (case side7 => exact fun k_ e_ => (HO_319004.out.1 k_ e_.symm).2.2.2.2); (case side8 => exact Kd.R_tight rfl HO_319005.out); (case side9 => exact fun k_ e_ => (HO_319005.out.1 k_ e_.symm).2.2.2.1); (case side10 => exact fun k_ e_ => (HO_319005.out.1 k_ e_.symm).2.2.2.2); rintro e w130 ⟨rfl, hy0, hy1, hy2, hb, hkp⟩; refine ⟨_, rfl, ?_⟩; replace HO_289003 := Aside0.mk (Kd.R_mono (ok' := fun k_ => some k_ ≠ (.slice Ao32 t281.length co32 : Value).ownBlock ∧ some k_ ≠ (.slice Ao33 t284.length co33 : Value).ownBlock ∧ some k_ ≠ (.slice Ao52 t308.length co52 : Value).ownBlock ∧ some k_ ≠ (.slice Ao53 t311.length co53 : Value).ownBlock ∧ some k_ ≠ (.slice Ao54 t314.length co54 : Value).ownBlock) (Kd.R_keptB (HO_289003.out) hkp (fun k_ hk_ hs_ => Or.elim hs_ (fun e_ => (hk_.2.2.1) e_) (fun e_ => Or.elim e_ (fun e_ => (hk_.2.2.2.1) e_) (fun e_ => (hk_.2.2.2.2) e_)))) (fun k_ hk_ => ⟨hk_.1.1, hk_.1.2.1, hk_.1.2.2.1, hk_.1.2.2.2.1, hk_.1.2.2.2.2⟩)); replace HO_289004 := Aside0.mk (Kd.R_mono (ok' := fun k_ => some k_ ≠ (.slice Ao31 t278.length co31 : Value).ownBlock ∧ some k_ ≠ (.slice Ao33 t284.length co33 : Value).ownBlock ∧ some k_ ≠ (.slice Ao52 t308.length co52 : Value).ownBlock ∧ some k_ ≠ (.slice Ao53 t311.length co53 : Value).ownBlock ∧ some k_ ≠ (.slice Ao54 t314.length co54 : Value).ownBlock) (Kd.R_keptB (HO_289004.out) hkp (fun k_ hk_ hs_ => Or.elim hs_ (fun e_ => (hk_.2.2.1) e_) (fun e_ => Or.elim e_ (fun e_ => (hk_.2.2.2.1) e_) (fun e_ => (hk_.2.2.2.2) e_)))) (fun k_ hk_ => ⟨hk_.1.1, hk_.1.2.1, hk_.1.2.2.1, hk_.1.2.2.2.1, hk_.1.2.2.2.2⟩)); replace HO_289005 := Aside0.mk (Kd.R_mono (ok' := fun k_ => some k_ ≠ (.slice Ao31 t278.length co31 : Value).ownBlock ∧ some k_ ≠ (.slice Ao32 t281.length co32 : Value).ownBlock ∧ some k_ ≠ (.slice Ao52 t308.length co52 : Value).ownBlock ∧ some k_ ≠ (.slice Ao53 t311.length co53 : Value).ownBlock ∧ some k_ ≠ (.slice Ao54 t314.length co54 : Value).ownBlock) (Kd.R_keptB (HO_289005.out) hkp (fun k_ hk_ hs_ => Or.elim hs_ (fun e_ => (hk_.2.2.1) e_) (fun e_ => Or.elim e_ (fun e_ => (hk_.2.2.2.1) e_) (fun e_ => (hk_.2.2.2.2) e_)))) (fun k_ hk_ => ⟨hk_.1.1, hk_.1.2.1, hk_.1.2.2.1, hk_.1.2.2.2.1, hk_.1.2.2.2.2⟩)); replace BK258 := Aside0.mk (blk_kept (kp_ BK258) hkp (fun hs_ => Or.elim hs_ (fun e_ => (fun e_ => (Kd.R_ne HO_319003.out BK258.out (by decide)) e_) e_) (fun e_ => Or.elim e_ (fun e_ => (fun e_ => (Kd.R_ne HO_319004.out BK258.out (by decide)) e_) e_) (fun e_ => (fun e_ => (Kd.R_ne HO_319005.out BK258.out (by decide)) e_) e_)))); replace BK288 := Aside0.mk (blk_kept (kp_ BK288) hkp (fun hs_ => Or.elim hs_ (fun e_ => (fun e_ => (Kd.R_ne HO_319003.out BK288.out (by decide)) e_) e_) (fun e_ => Or.elim e_ (fun e_ => (fun e_ => (Kd.R_ne HO_319004.out BK288.out (by decide)) e_) e_) (fun e_ => (fun e_ => (Kd.R_ne HO_319005.out BK288.out (by decide)) e_) e_)))); replace BK318 := Aside0.mk (blk_kept (kp_ BK318) hkp (fun hs_ => Or.elim hs_ (fun e_ => (fun e_ => (Kd.R_ne HO_319003.out BK318.out (by decide)) e_) e_) (fun e_ => Or.elim e_ (fun e_ => (fun e_ => (Kd.R_ne HO_319004.out BK318.out (by decide)) e_) e_) (fun e_ => (fun e_ => (Kd.R_ne HO_319005.out BK318.out (by decide)) e_) e_)))); replace HB := Aside0.mk (hb); replace HO_319003 := Aside0.mk (Kd.R_reok rfl hy0 (fun k_ e_ => HO_319003.out.1 k_ e_)); replace HO_319004 := Aside0.mk (Kd.R_reok rfl hy1 (fun k_ e_ => HO_319004.out.1 k_ e_)); replace HO_319005 := Aside0.mk (Kd.R_reok rfl hy2 (fun k_ e_ => HO_319005.out.1 k_ e_)); (try clear hb); (try clear hkp); (try clear hy0); (try clear hy1); (try clear hy2); obtain ⟨hcz131_0, hcz131_1, hcz131_2, hcz131_3, hcz131_4, hcz131_5, hfz131_0, hfz131_1, hfz131_2, hfz131_3, hfz131_4, hfz131_5⟩ := bx6 BK318) | ((with_reducible refine gate_callee (f := 13) rfl ?_); refine gl_ (some 86) Try.func13 #[.agg #[.int .i64 t305, .int .i64 t306, .int .i64 t307, .slice Ao52 t345.length co52, .slice Ao53 t346.length co53, .slice Ao54 t347.length co54], .int .i64 1] rfl rfl rfl ?_ (by (try simp only [List.map_toArray, List.map_cons, List.map_nil]); first | done | (rw [show t345.length = t308.length from (Kd.R_reads' HO_319003.out).1.symm, show t346.length = t311.length from (Kd.R_reads' HO_319004.out).1.symm, show t347.length = t314.length from (Kd.R_reads' HO_319005.out).1.symm] <;> rfl) | rfl | (simp only [List.length_drop, List.length_take]; rfl)); (with_reducible refine (laws_heldModel.calls kj81 t305 t306 t307 _ _ t345 _ _ t346 _ _ t347 1 t348 _ ?side1 ?side2 ?side3 ?side4 ?side5 ?side6 A114.out).mono ?_); (case side1 => exact Kd.C_o HO_319003); (case side2 => rw [show t345.length = t308.length from (Kd.R_reads' HO_319003.out).1.symm]; exact (Kd.R_reads' HO_319003.out).2.1); (case side3 => exact Kd.C_o HO_319004); (case side4 => rw [show t346.length = t311.length from (Kd.R_reads' HO_319004.out).1.symm]; exact (Kd.R_reads' HO_319004.out).2.1); (case side5 => exact Kd.C_o HO_319005); (case side6 => rw [show t347.length = t314.length from (Kd.R_reads' HO_319005.out).1.symm]; exact (Kd.R_reads' HO_319005.out).2.1); rintro e w132 ⟨rfl, hb⟩; refine ⟨_, rfl, ?_⟩; replace HO_289003 := Kd.R_b HO_289003 hb; replace HO_289004 := Kd.R_b HO_289004 hb; replace HO_289005 := Kd.R_b HO_289005 hb; replace HO_319003 := Kd.R_b HO_319003 hb; replace HO_319004 := Kd.R_b HO_319004 hb; replace HO_319005 := Kd.R_b HO_319005 hb; replace BK258 := kb_ BK258 hb; replace BK288 := kb_ BK288 hb; replace BK318 := kb_ BK318 hb; replace HB := hbs_ HB hb; (try clear hb); (try clear hb2); (try clear hk); (try clear hi); have hnb133 := NB258_288.out; have hnc133 := NB288_258.out; obtain ⟨hcz134_0, hcz134_1, hcz134_2, hcz134_3, hcz134_4, hcz134_5, hfz134_0, hfz134_1, hfz134_2, hfz134_3, hfz134_4, hfz134_5⟩ := bx6 BK258) | ((with_reducible refine gate_callee (f := 9) rfl ?_); refine gl_ (some 94) Try.func9 #[.agg #[.int .i64 a0_0, .int .i64 a0_1, .int .i64 a0_2, .slice A0_3 l0_3.length c0_3, .slice A0_4 l0_4.length c0_4, .slice A0_5 l0_5.length c0_5]] rfl rfl rfl ?_; (with_reducible refine (laws_toModel.calls kj81 a0_0 a0_1 a0_2 _ _ l0_3 _ _ l0_4 _ _ l0_5 t349 t350 t351 t352 t355 t358 _ ?side1 ?side2 ?side3 ?side4 ?side5 ?side6 A123.out).mono ?_); (case side1 => exact Kd.C_w HR0_3 HB); (case side2 => exact HC0_3.out); (case side3 => exact Kd.C_w HR0_4 HB); (case side4 => exact HC0_4.out); (case side5 => exact Kd.C_w HR0_5 HB); (case side6 => exact HC0_5.out); rintro e w135 ⟨v353, v356, v359, rfl, ho0, ho1, ho2, hb⟩; refine ⟨_, rfl, ?_⟩; have HO354 := Aside0.mk (Kd.R_lower (Kd.R_new' (Kd.R_new' (Kd.R_new' (Kd.R_new' (Kd.R_new' (Kd.R_new' ho0 (Kd.R_lt (Kd.R_p HO_289003))) (Kd.R_lt (Kd.R_p HO_289004))) (Kd.R_lt (Kd.R_p HO_289005))) (Kd.R_lt (Kd.R_p HO_319003))) (Kd.R_lt (Kd.R_p HO_319004))) (Kd.R_lt (Kd.R_p HO_319005))) (below_size (hb_ HB))); have HO357 := Aside0.mk (Kd.R_lower (Kd.R_new' (Kd.R_new' (Kd.R_new' (Kd.R_new' (Kd.R_new' (Kd.R_new' ho1 (Kd.R_lt (Kd.R_p HO_289003))) (Kd.R_lt (Kd.R_p HO_289004))) (Kd.R_lt (Kd.R_p HO_289005))) (Kd.R_lt (Kd.R_p HO_319003))) (Kd.R_lt (Kd.R_p HO_319004))) (Kd.R_lt (Kd.R_p HO_319005))) (below_size (hb_ HB))); have HO360 := Aside0.mk (Kd.R_lower (Kd.R_new' (Kd.R_new' (Kd.R_new' (Kd.R_new' (Kd.R_new' (Kd.R_new' ho2 (Kd.R_lt (Kd.R_p HO_289003))) (Kd.R_lt (Kd.R_p HO_289004))) (Kd.R_lt (Kd.R_p HO_289005))) (Kd.R_lt (Kd.R_p HO_319003))) (Kd.R_lt (Kd.R_p HO_319004))) (Kd.R_lt (Kd.R_p HO_319005))) (below_size (hb_ HB))); replace HO_289003 := Kd.R_e3 HO_289003 ho0 ho1 ho2 hb; replace HO_289004 := Kd.R_e3 HO_289004 ho0 ho1 ho2 hb; replace HO_289005 := Kd.R_e3 HO_289005 ho0 ho1 ho2 hb; replace HO_319003 := Kd.R_e3 HO_319003 ho0 ho1 ho2 hb; replace HO_319004 := Kd.R_e3 HO_319004 ho0 ho1 ho2 hb; replace HO_319005 := Kd.R_e3 HO_319005 ho0 ho1 ho2 hb; replace BK258 := kb_ BK258 hb; replace BK288 := kb_ BK288 hb; replace BK318 := kb_ BK318 hb; replace HB := hbs_ HB hb; (try clear hb); (try clear hb2); (try clear hk); (try clear hi); (try clear ho0); (try clear ho1); (try clear ho2); try clear BK258; try clear GW258; try clear GE258; try clear NB258_288; try clear NB288_258; try clear NB258_318; try clear NB318_258) | ((with_reducible refine gate_callee (f := 15) rfl ?_); refine gl_ (some 96) Try.func15 #[.slice A1 l1.length c1] rfl rfl rfl ?_; (with_reducible refine (laws_toIntS.calls kj81 _ _ l1 t361 _ ?side1 ?side2 A124.out).mono ?_); (case side1 => exact Kd.C_w HR1 HB); (case side2 => exact HC1.out); rintro e w136 ⟨v362, rfl, ho0, hb⟩; refine ⟨_, rfl, ?_⟩; have HO363 := Aside0.mk (Kd.R_lower (Kd.R_new' (Kd.R_new' (Kd.R_new' (Kd.R_new' (Kd.R_new' (Kd.R_new' (Kd.R_new' (Kd.R_new' (Kd.R_new' ho0 (Kd.R_lt (Kd.R_p HO_289003))) (Kd.R_lt (Kd.R_p HO_289004))) (Kd.R_lt (Kd.R_p HO_289005))) (Kd.R_lt (Kd.R_p HO_319003))) (Kd.R_lt (Kd.R_p HO_319004))) (Kd.R_lt (Kd.R_p HO_319005))) (Kd.R_lt (Kd.R_p HO354))) (Kd.R_lt (Kd.R_p HO357))) (Kd.R_lt (Kd.R_p HO360))) (below_size (hb_ HB))); replace HO_289003 := Kd.R_e HO_289003 ho0 hb; replace HO_289004 := Kd.R_e HO_289004 ho0 hb; replace HO_289005 := Kd.R_e HO_289005 ho0 hb; replace HO_319003 := Kd.R_e HO_319003 ho0 hb; replace HO_319004 := Kd.R_e HO_319004 ho0 hb; replace HO_319005 := Kd.R_e HO_319005 ho0 hb; replace HO354 := Kd.R_e HO354 ho0 hb; replace HO357 := Kd.R_e HO357 ho0 hb; replace HO360 := Kd.R_e HO360 ho0 hb; replace BK288 := kb_ BK288 hb; replace BK318 := kb_ BK318 hb; replace HB := hbs_ HB hb; (try clear hb); (try clear hb2); (try clear hk); (try clear hi); (try clear ho0); obtain ⟨Ao137, co137, eo137⟩ := Kd.R_slice HO354.out; subst eo137; obtain ⟨Ao138, co138, eo138⟩ := Kd.R_slice HO357.out; subst eo138; obtain ⟨Ao139, co139, eo139⟩ := Kd.R_slice HO360.out; subst eo139; obtain ⟨Ao140, co140, eo140⟩ := Kd.R_slice HO363.out; subst eo140) | ((with_reducible refine gate_callee (f := 16) rfl ?_); refine gl_ (some 97) Try.func16 #[.agg #[.int .i64 t349, .int .i64 t350, .int .i64 t351, .slice Ao137 t352.length co137, .slice Ao138 t355.length co138, .slice Ao139 t358.length co139], .slice Ao140 t361.length co140] rfl rfl rfl ?_; (with_reducible refine (impl_EmptyBlocks.calls kj81 t349 t350 t351 _ _ t352 _ _ t355 _ _ t358 _ _ t361 t364 t365 t366 t367 t370 t373 t376 _ ?side1 ?side2 ?side3 ?side4 ?side5 ?side6 ?side7 ?side8 A125.out).mono ?_); (case side1 => exact Kd.C_o HO354); (case side2 => exact (Kd.R_reads' HO354.out).2.1); (case side3 => exact Kd.C_o HO357); (case side4 => exact (Kd.R_reads' HO357.out).2.1); (case side5 => exact Kd.C_o HO360); (case side6 => exact (Kd.R_reads' HO360.out).2.1); (case side7 => exact Kd.C_o HO363); (case side8 => exact (Kd.R_reads' HO363.out).2.1); rintro e w141 ⟨v368, v371, v374, rfl, ho0, ho1, ho2, hb⟩; refine ⟨_, rfl, ?_⟩; have HO369 := Aside0.mk (Kd.R_lower (Kd.R_new' (Kd.R_new' (Kd.R_new' (Kd.R_new' (Kd.R_new' (Kd.R_new' (Kd.R_new' (Kd.R_new' (Kd.R_new' (Kd.R_new' ho0 (Kd.R_lt (Kd.R_p HO_289003))) (Kd.R_lt (Kd.R_p HO_289004))) (Kd.R_lt (Kd.R_p HO_289005))) (Kd.R_lt (Kd.R_p HO_319003))) (Kd.R_lt (Kd.R_p HO_319004))) (Kd.R_lt (Kd.R_p HO_319005))) (Kd.R_lt (Kd.R_p HO354))) (Kd.R_lt (Kd.R_p HO357))) (Kd.R_lt (Kd.R_p HO360))) (Kd.R_lt (Kd.R_p HO363))) (below_size (hb_ HB))); have HO372 := Aside0.mk (Kd.R_lower (Kd.R_new' (Kd.R_new' (Kd.R_new' (Kd.R_new' (Kd.R_new' (Kd.R_new' (Kd.R_new' (Kd.R_new' (Kd.R_new' (Kd.R_new' ho1 (Kd.R_lt (Kd.R_p HO_289003))) (Kd.R_lt (Kd.R_p HO_289004))) (Kd.R_lt (Kd.R_p HO_289005))) (Kd.R_lt (Kd.R_p HO_319003))) (Kd.R_lt (Kd.R_p HO_319004))) (Kd.R_lt (Kd.R_p HO_319005))) (Kd.R_lt (Kd.R_p HO354))) (Kd.R_lt (Kd.R_p HO357))) (Kd.R_lt (Kd.R_p HO360))) (Kd.R_lt (Kd.R_p HO363))) (below_size (hb_ HB))); have HO375 := Aside0.mk (Kd.R_lower (Kd.R_new' (Kd.R_new' (Kd.R_new' (Kd.R_new' (Kd.R_new' (Kd.R_new' (Kd.R_new' (Kd.R_new' (Kd.R_new' (Kd.R_new' ho2 (Kd.R_lt (Kd.R_p HO_289003))) (Kd.R_lt (Kd.R_p HO_289004))) (Kd.R_lt (Kd.R_p HO_289005))) (Kd.R_lt (Kd.R_p HO_319003))) (Kd.R_lt (Kd.R_p HO_319004))) (Kd.R_lt (Kd.R_p HO_319005))) (Kd.R_lt (Kd.R_p HO354))) (Kd.R_lt (Kd.R_p HO357))) (Kd.R_lt (Kd.R_p HO360))) (Kd.R_lt (Kd.R_p HO363))) (below_size (hb_ HB))); replace HO_289003 := Kd.R_e3 HO_289003 ho0 ho1 ho2 hb; replace HO_289004 := Kd.R_e3 HO_289004 ho0 ho1 ho2 hb; replace HO_289005 := Kd.R_e3 HO_289005 ho0 ho1 ho2 hb; replace HO_319003 := Kd.R_e3 HO_319003 ho0 ho1 ho2 hb; replace HO_319004 := Kd.R_e3 HO_319004 ho0 ho1 ho2 hb; replace HO_319005 := Kd.R_e3 HO_319005 ho0 ho1 ho2 hb; replace HO354 := Kd.R_e3 HO354 ho0 ho1 ho2 hb; replace HO357 := Kd.R_e3 HO357 ho0 ho1 ho2 hb; replace HO360 := Kd.R_e3 HO360 ho0 ho1 ho2 hb; replace HO363 := Kd.R_e3 HO363 ho0 ho1 ho2 hb; replace BK288 := kb_ BK288 hb; replace BK318 := kb_ BK318 hb; replace HB := hbs_ HB hb; (try clear hb); (try clear hb2); (try clear hk); (try clear hi); (try clear ho0); (try clear ho1); (try clear ho2); try clear HO354; try clear HO357; try clear HO360; try clear HO363) | ((with_reducible refine gate_dst (N := 15) rfl ?_); refine box_event ?hg (N := 15) ?hd (cs := #[.int .i64 0, .int .i64 0, .int .i64 0, .slice none 0 0, .slice none 0 0, .slice none 0 0]) (t := 30) ?hr ?_; (case hd => rfl); (case hg => rfl); (case hr => first | (go_simp; done) | (go_simp; rfl)); intro gb377 hg w142 hbox hb; have BK377 := Aside0.mk (hbox); have GW377 := gs_ hg HB; have GE377 := gs_ hg HB; have NB288_377 := nl_ hg BK288; have NB377_288 := ng_ hg BK288; have NB318_377 := nl_ hg BK318; have NB377_318 := ng_ hg BK318; replace HO_289003 := Kd.R_b HO_289003 hb; replace HO_289004 := Kd.R_b HO_289004 hb; replace HO_289005 := Kd.R_b HO_289005 hb; replace HO_319003 := Kd.R_b HO_319003 hb; replace HO_319004 := Kd.R_b HO_319004 hb; replace HO_319005 := Kd.R_b HO_319005 hb; replace HO369 := Kd.R_b HO369 hb; replace HO372 := Kd.R_b HO372 hb; replace HO375 := Kd.R_b HO375 hb; replace BK288 := kb_ BK288 hb; replace BK318 := kb_ BK318 hb; replace HB := hbs_ HB hb; clear hb hbox hg; have hnb143 := NB377_288.out; have hnc143 := NB288_377.out; have hnb144 := NB377_318.out; have hnc144 := NB318_377.out; obtain ⟨hcz145_0, hcz145_1, hcz145_2, hcz145_3, hcz145_4, hcz145_5, hfz145_0, hfz145_1, hfz145_2, hfz145_3, hfz145_4, hfz145_5⟩ := bx6 BK377; obtain ⟨Ao146, co146, eo146⟩ := Kd.R_slice HO369.out; subst eo146; obtain ⟨Ao147, co147, eo147⟩ := Kd.R_slice HO372.out; subst eo147; obtain ⟨Ao148, co148, eo148⟩ := Kd.R_slice HO375.out; subst eo148))
             (try simp only [Act.put, List.setIfInBounds_toArray, List.set_cons_zero, List.set_cons_succ])
             go_cut [108] (fun v108 wc => ∃ (kq : Nat) (x108_125 : Bool), v108 = .bool x108_125 ∧ Aside0 (laws_FnExactEmptyBlocks.j2 kq t344 x108_125 t305 t306 t307 t345 t346 t347 = some r) ∧ Aside0 (kq ≤ kj81) ∧ Aside0 (Kd.R (Kd.int .i64) 3 wc w.heap.size (fun k_ => some k_ ≠ ((.slice Ao32 t281.length co32) : Value).ownBlock ∧ some k_ ≠ ((.slice Ao33 t284.length co33) : Value).ownBlock ∧ some k_ ≠ ((.slice Ao52 t308.length co52) : Value).ownBlock ∧ some k_ ≠ ((.slice Ao53 t311.length co53) : Value).ownBlock ∧ some k_ ≠ ((.slice Ao54 t314.length co54) : Value).ownBlock ∧ some k_ ≠ ((.slice Ao146 t367.length co146) : Value).ownBlock ∧ some k_ ≠ ((.slice Ao147 t370.length co147) : Value).ownBlock ∧ some k_ ≠ ((.slice Ao148 t373.length co148) : Value).ownBlock) (.slice Ao31 t278.length co31) t278) ∧ Aside0 (Kd.R (Kd.int .i64) 3 wc w.heap.size (fun k_ => some k_ ≠ ((.slice Ao31 t278.length co31) : Value).ownBlock ∧ some k_ ≠ ((.slice Ao33 t284.length co33) : Value).ownBlock ∧ some k_ ≠ ((.slice Ao52 t308.length co52) : Value).ownBlock ∧ some k_ ≠ ((.slice Ao53 t311.length co53) : Value).ownBlock ∧ some k_ ≠ ((.slice Ao54 t314.length co54) : Value).ownBlock ∧ some k_ ≠ ((.slice Ao146 t367.length co146) : Value).ownBlock ∧ some k_ ≠ ((.slice Ao147 t370.length co147) : Value).ownBlock ∧ some k_ ≠ ((.slice Ao148 t373.length co148) : Value).ownBlock) (.slice Ao32 t281.length co32) t281) ∧ Aside0 (Kd.R (Kd.int .i64) 3 wc w.heap.size (fun k_ => some k_ ≠ ((.slice Ao31 t278.length co31) : Value).ownBlock ∧ some k_ ≠ ((.slice Ao32 t281.length co32) : Value).ownBlock ∧ some k_ ≠ ((.slice Ao52 t308.length co52) : Value).ownBlock ∧ some k_ ≠ ((.slice Ao53 t311.length co53) : Value).ownBlock ∧ some k_ ≠ ((.slice Ao54 t314.length co54) : Value).ownBlock ∧ some k_ ≠ ((.slice Ao146 t367.length co146) : Value).ownBlock ∧ some k_ ≠ ((.slice Ao147 t370.length co147) : Value).ownBlock ∧ some k_ ≠ ((.slice Ao148 t373.length co148) : Value).ownBlock) (.slice Ao33 t284.length co33) t284) ∧ Aside0 (Kd.R (Kd.int .i64) 3 wc w.heap.size (fun k_ => some k_ ≠ ((.slice Ao31 t278.length co31) : Value).ownBlock ∧ some k_ ≠ ((.slice Ao32 t281.length co32) : Value).ownBlock ∧ some k_ ≠ ((.slice Ao33 t284.length co33) : Value).ownBlock ∧ some k_ ≠ ((.slice Ao53 t311.length co53) : Value).ownBlock ∧ some k_ ≠ ((.slice Ao54 t314.length co54) : Value).ownBlock ∧ some k_ ≠ ((.slice Ao146 t367.length co146) : Value).ownBlock ∧ some k_ ≠ ((.slice Ao147 t370.length co147) : Value).ownBlock ∧ some k_ ≠ ((.slice Ao148 t373.length co148) : Value).ownBlock) (.slice Ao52 t308.length co52) t345) ∧ Aside0 (Kd.R (Kd.int .i64) 3 wc w.heap.size (fun k_ => some k_ ≠ ((.slice Ao31 t278.length co31) : Value).ownBlock ∧ some k_ ≠ ((.slice Ao32 t281.length co32) : Value).ownBlock ∧ some k_ ≠ ((.slice Ao33 t284.length co33) : Value).ownBlock ∧ some k_ ≠ ((.slice Ao52 t308.length co52) : Value).ownBlock ∧ some k_ ≠ ((.slice Ao54 t314.length co54) : Value).ownBlock ∧ some k_ ≠ ((.slice Ao146 t367.length co146) : Value).ownBlock ∧ some k_ ≠ ((.slice Ao147 t370.length co147) : Value).ownBlock ∧ some k_ ≠ ((.slice Ao148 t373.length co148) : Value).ownBlock) (.slice Ao53 t311.length co53) t346) ∧ Aside0 (Kd.R (Kd.int .i64) 3 wc w.heap.size (fun k_ => some k_ ≠ ((.slice Ao31 t278.length co31) : Value).ownBlock ∧ some k_ ≠ ((.slice Ao32 t281.length co32) : Value).ownBlock ∧ some k_ ≠ ((.slice Ao33 t284.length co33) : Value).ownBlock ∧ some k_ ≠ ((.slice Ao52 t308.length co52) : Value).ownBlock ∧ some k_ ≠ ((.slice Ao53 t311.length co53) : Value).ownBlock ∧ some k_ ≠ ((.slice Ao146 t367.length co146) : Value).ownBlock ∧ some k_ ≠ ((.slice Ao147 t370.length co147) : Value).ownBlock ∧ some k_ ≠ ((.slice Ao148 t373.length co148) : Value).ownBlock) (.slice Ao54 t314.length co54) t347) ∧ Aside0 (Kd.R (Kd.int .i64) 3 wc w.heap.size (fun k_ => some k_ ≠ ((.slice Ao31 t278.length co31) : Value).ownBlock ∧ some k_ ≠ ((.slice Ao32 t281.length co32) : Value).ownBlock ∧ some k_ ≠ ((.slice Ao33 t284.length co33) : Value).ownBlock ∧ some k_ ≠ ((.slice Ao52 t308.length co52) : Value).ownBlock ∧ some k_ ≠ ((.slice Ao53 t311.length co53) : Value).ownBlock ∧ some k_ ≠ ((.slice Ao54 t314.length co54) : Value).ownBlock ∧ some k_ ≠ ((.slice Ao147 t370.length co147) : Value).ownBlock ∧ some k_ ≠ ((.slice Ao148 t373.length co148) : Value).ownBlock) (.slice Ao146 t367.length co146) t367) ∧ Aside0 (Kd.R (Kd.int .i64) 3 wc w.heap.size (fun k_ => some k_ ≠ ((.slice Ao31 t278.length co31) : Value).ownBlock ∧ some k_ ≠ ((.slice Ao32 t281.length co32) : Value).ownBlock ∧ some k_ ≠ ((.slice Ao33 t284.length co33) : Value).ownBlock ∧ some k_ ≠ ((.slice Ao52 t308.length co52) : Value).ownBlock ∧ some k_ ≠ ((.slice Ao53 t311.length co53) : Value).ownBlock ∧ some k_ ≠ ((.slice Ao54 t314.length co54) : Value).ownBlock ∧ some k_ ≠ ((.slice Ao146 t367.length co146) : Value).ownBlock ∧ some k_ ≠ ((.slice Ao148 t373.length co148) : Value).ownBlock) (.slice Ao147 t370.length co147) t370) ∧ Aside0 (Kd.R (Kd.int .i64) 3 wc w.heap.size (fun k_ => some k_ ≠ ((.slice Ao31 t278.length co31) : Value).ownBlock ∧ some k_ ≠ ((.slice Ao32 t281.length co32) : Value).ownBlock ∧ some k_ ≠ ((.slice Ao33 t284.length co33) : Value).ownBlock ∧ some k_ ≠ ((.slice Ao52 t308.length co52) : Value).ownBlock ∧ some k_ ≠ ((.slice Ao53 t311.length co53) : Value).ownBlock ∧ some k_ ≠ ((.slice Ao54 t314.length co54) : Value).ownBlock ∧ some k_ ≠ ((.slice Ao146 t367.length co146) : Value).ownBlock ∧ some k_ ≠ ((.slice Ao147 t370.length co147) : Value).ownBlock) (.slice Ao148 t373.length co148) t373) ∧ Aside0 (wc.heap[gb288]? = some (.cells #[.int .i64 t275, .int .i64 t276, .int .i64 t277, (.slice Ao31 t278.length co31), (.slice Ao32 t281.length co32), (.slice Ao33 t284.length co33)] 30 (0, 0))) ∧ Aside0 (wc.heap[gb318]? = some (.cells #[.int .i64 t305, .int .i64 t306, .int .i64 t307, (.slice Ao52 t308.length co52), (.slice Ao53 t311.length co53), (.slice Ao54 t314.length co54)] 30 (0, 0))) ∧ Aside0 (wc.heap[gb377]? = some (.cells #[.int .i64 t364, .int .i64 t365, .int .i64 t366, (.slice Ao146 t367.length co146), (.slice Ao147 t370.length co147), (.slice Ao148 t373.length co148)] 30 (0, 0))) ∧ Aside0 (Below w.heap.size w wc))
             case first =>
              have H := HC126.out
              clear HC126
              replace H := Option.bind_eq_some_iff.mp H
              obtain ⟨t378, A1490, H⟩ := H
              replace H : (if t378 = true then (laws_FnExactEmptyBlocks.j2 kj81 t344 (t376 != t287) t305 t306 t307 t345 t346 t347) else (laws_FnExactEmptyBlocks.j2 kj81 t344 true t305 t306 t307 t345 t346 t347)) = some r := H
              have A149 := Aside0.mk A1490
              clear A1490
              by_cases c150 : t378 = true
              ·subst c150
               have H1 : (laws_FnExactEmptyBlocks.j2 kj81 t344 (t376 != t287) t305 t306 t307 t345 t346 t347) = some r := by rw [if_pos rfl] at H; exact H
               clear H
               have H := H1
               clear H1
               have H' := Aside0.mk H
               clear H
               have hnb151 := NB377_288.out
               have hnc151 := NB288_377.out
               have hnb152 := NB377_318.out
               have hnc152 := NB318_377.out
               have hcz153_0 : w142.cell? ⟨gb377, 0, none⟩ = some (.int .i64 0) := (blk_cell BK377.out 0).trans rfl
               have hcz153_1 : w142.cell? ⟨gb377, 1, none⟩ = some (.int .i64 0) := (blk_cell BK377.out 1).trans rfl
               have hcz153_2 : w142.cell? ⟨gb377, 2, none⟩ = some (.int .i64 0) := (blk_cell BK377.out 2).trans rfl
               have hcz153_3 : w142.cell? ⟨gb377, 3, none⟩ = some (.slice none 0 0) := (blk_cell BK377.out 3).trans rfl
               have hcz153_4 : w142.cell? ⟨gb377, 4, none⟩ = some (.slice none 0 0) := (blk_cell BK377.out 4).trans rfl
               have hcz153_5 : w142.cell? ⟨gb377, 5, none⟩ = some (.slice none 0 0) := (blk_cell BK377.out 5).trans rfl
               have hfz153_0 := blk_frozen BK377.out 0
               have hfz153_1 := blk_frozen BK377.out 1
               have hfz153_2 := blk_frozen BK377.out 2
               have hfz153_3 := blk_frozen BK377.out 3
               have hfz153_4 := blk_frozen BK377.out 4
               have hfz153_5 := blk_frozen BK377.out 5
               have hnb154 := NB288_318.out
               have hnc154 := NB318_288.out
               have hcz155_0 : w142.cell? ⟨gb288, 0, none⟩ = some (.int .i64 t275) := (blk_cell BK288.out 0).trans rfl
               have hcz155_1 : w142.cell? ⟨gb288, 1, none⟩ = some (.int .i64 t276) := (blk_cell BK288.out 1).trans rfl
               have hcz155_2 : w142.cell? ⟨gb288, 2, none⟩ = some (.int .i64 t277) := (blk_cell BK288.out 2).trans rfl
               have hcz155_3 : w142.cell? ⟨gb288, 3, none⟩ = some (.slice Ao31 t278.length co31) := (blk_cell BK288.out 3).trans rfl
               have hcz155_4 : w142.cell? ⟨gb288, 4, none⟩ = some (.slice Ao32 t281.length co32) := (blk_cell BK288.out 4).trans rfl
               have hcz155_5 : w142.cell? ⟨gb288, 5, none⟩ = some (.slice Ao33 t284.length co33) := (blk_cell BK288.out 5).trans rfl
               have hfz155_0 := blk_frozen BK288.out 0
               have hfz155_1 := blk_frozen BK288.out 1
               have hfz155_2 := blk_frozen BK288.out 2
               have hfz155_3 := blk_frozen BK288.out 3
               have hfz155_4 := blk_frozen BK288.out 4
               have hfz155_5 := blk_frozen BK288.out 5
               go_wp2_with (first | ((with_reducible refine gate_callee (f := 11) rfl ?_); refine gl_ (some 102) Try.func11 #[.agg #[.int .i64 t364, .int .i64 t365, .int .i64 t366, .slice Ao146 t367.length co146, .slice Ao147 t370.length co147, .slice Ao148 t373.length co148], .agg #[.int .i64 t275, .int .i64 t276, .int .i64 t277, .slice Ao31 t278.length co31, .slice Ao32 t281.length co32, .slice Ao33 t284.length co33]] rfl rfl rfl ?_; (with_reducible refine (laws_eqModel.calls kj81 t364 t365 t366 _ _ t367 _ _ t370 _ _ t373 t275 t276 t277 _ _ t278 _ _ t281 _ _ t284 true _ ?side1 ?side2 ?side3 ?side4 ?side5 ?side6 ?side7 ?side8 ?side9 ?side10 ?side11 ?side12 A149.out).mono ?_); (case side1 => exact (Kd.R_reads' (Kd.R_s HO369 BK377)).2.2); (case side2 => exact (Kd.R_reads' HO369.out).2.1); (case side3 => exact (Kd.R_reads' (Kd.R_s HO372 BK377)).2.2); (case side4 => exact (Kd.R_reads' HO372.out).2.1); (case side5 => exact (Kd.R_reads' (Kd.R_s HO375 BK377)).2.2); (case side6 => exact (Kd.R_reads' HO375.out).2.1); (case side7 => exact (Kd.R_reads' (Kd.R_s HO_289003 BK377)).2.2); (case side8 => exact (Kd.R_reads' HO_289003.out).2.1); (case side9 => exact (Kd.R_reads' (Kd.R_s HO_289004 BK377)).2.2); (case side10 => exact (Kd.R_reads' HO_289004.out).2.1); (case side11 => exact (Kd.R_reads' (Kd.R_s HO_289005 BK377)).2.2); (case side12 => exact (Kd.R_reads' HO_289005.out).2.1); rintro e w156 ⟨rfl, hb⟩; refine ⟨_, rfl, ?_⟩; replace HO_289003 := Kd.R_sb HO_289003 BK377 hb; replace HO_289004 := Kd.R_sb HO_289004 BK377 hb; replace HO_289005 := Kd.R_sb HO_289005 BK377 hb; replace HO_319003 := Kd.R_sb HO_319003 BK377 hb; replace HO_319004 := Kd.R_sb HO_319004 BK377 hb; replace HO_319005 := Kd.R_sb HO_319005 BK377 hb; replace HO369 := Kd.R_sb HO369 BK377 hb; replace HO372 := Kd.R_sb HO372 BK377 hb; replace HO375 := Kd.R_sb HO375 BK377 hb; replace BK288 := kfb_ BK288 NB288_377 hb; replace BK318 := kfb_ BK318 NB318_377 hb; replace HB := hbs_ HB hb; replace BK377 := Aside0.mk (blk_below (g := gb377) (o := .cells #[.int .i64 t364, .int .i64 t365, .int .i64 t366, .slice Ao146 t367.length co146, .slice Ao147 t370.length co147, .slice Ao148 t373.length co148] 30 (0, 0)) (kpq_ (kputs BK377 [(0, .int .i64 t364), (1, .int .i64 t365), (2, .int .i64 t366), (3, .slice Ao146 t367.length co146), (4, .slice Ao147 t370.length co147), (5, .slice Ao148 t373.length co148)])) hb); (try clear hb); (try clear hb2); (try clear hk); (try clear hi)))
               go_meet
               case rel => exact ⟨_, ((t376 != t287)), (by first | rfl | (simp; done) | (simp [*]; done)), H', ⟨by have := HJ15.out; have := HJ81.out; first | omega | exact Nat.le_refl _⟩, ⟨Kd.R_pp (Kd.R_mono HO_289003.out (fun _ hk => ⟨hk.1.1.1.1.1.1.1.1, ⟨hk.1.1.1.1.1.1.1.2.1, ⟨hk.1.1.1.1.1.1.1.2.2.1, ⟨hk.1.1.1.1.1.1.1.2.2.2.1, ⟨hk.1.1.1.1.1.1.1.2.2.2.2, ⟨hk.1.1.2, ⟨hk.1.2, hk.2⟩⟩⟩⟩⟩⟩⟩))⟩, ⟨Kd.R_pp (Kd.R_mono HO_289004.out (fun _ hk => ⟨hk.1.1.1.1.1.1.1.1, ⟨hk.1.1.1.1.1.1.1.2.1, ⟨hk.1.1.1.1.1.1.1.2.2.1, ⟨hk.1.1.1.1.1.1.1.2.2.2.1, ⟨hk.1.1.1.1.1.1.1.2.2.2.2, ⟨hk.1.1.2, ⟨hk.1.2, hk.2⟩⟩⟩⟩⟩⟩⟩))⟩, ⟨Kd.R_pp (Kd.R_mono HO_289005.out (fun _ hk => ⟨hk.1.1.1.1.1.1.1.1, ⟨hk.1.1.1.1.1.1.1.2.1, ⟨hk.1.1.1.1.1.1.1.2.2.1, ⟨hk.1.1.1.1.1.1.1.2.2.2.1, ⟨hk.1.1.1.1.1.1.1.2.2.2.2, ⟨hk.1.1.2, ⟨hk.1.2, hk.2⟩⟩⟩⟩⟩⟩⟩))⟩, ⟨Kd.R_pp (Kd.R_mono HO_319003.out (fun _ hk => ⟨hk.1.1.1.1.1.1.1.1, ⟨hk.1.1.1.1.1.1.1.2.1, ⟨hk.1.1.1.1.1.1.1.2.2.1, ⟨hk.1.1.1.1.1.1.1.2.2.2.1, ⟨hk.1.1.1.1.1.1.1.2.2.2.2, ⟨hk.1.1.2, ⟨hk.1.2, hk.2⟩⟩⟩⟩⟩⟩⟩))⟩, ⟨Kd.R_pp (Kd.R_mono HO_319004.out (fun _ hk => ⟨hk.1.1.1.1.1.1.1.1, ⟨hk.1.1.1.1.1.1.1.2.1, ⟨hk.1.1.1.1.1.1.1.2.2.1, ⟨hk.1.1.1.1.1.1.1.2.2.2.1, ⟨hk.1.1.1.1.1.1.1.2.2.2.2, ⟨hk.1.1.2, ⟨hk.1.2, hk.2⟩⟩⟩⟩⟩⟩⟩))⟩, ⟨Kd.R_pp (Kd.R_mono HO_319005.out (fun _ hk => ⟨hk.1.1.1.1.1.1.1.1, ⟨hk.1.1.1.1.1.1.1.2.1, ⟨hk.1.1.1.1.1.1.1.2.2.1, ⟨hk.1.1.1.1.1.1.1.2.2.2.1, ⟨hk.1.1.1.1.1.1.1.2.2.2.2, ⟨hk.1.1.2, ⟨hk.1.2, hk.2⟩⟩⟩⟩⟩⟩⟩))⟩, ⟨Kd.R_pp (Kd.R_mono HO369.out (fun _ hk => ⟨hk.1.1.1.1.1.1.1.1.1.2, ⟨hk.1.1.1.1.1.1.1.1.2, ⟨hk.1.1.1.1.1.1.1.2, ⟨hk.1.1.1.1.1.1.2, ⟨hk.1.1.1.1.1.2, ⟨hk.1.1.1.1.2, ⟨hk.1.1.1.1.1.1.1.1.1.1.1, hk.1.1.1.1.1.1.1.1.1.1.2⟩⟩⟩⟩⟩⟩⟩))⟩, ⟨Kd.R_pp (Kd.R_mono HO372.out (fun _ hk => ⟨hk.1.1.1.1.1.1.1.1.1.2, ⟨hk.1.1.1.1.1.1.1.1.2, ⟨hk.1.1.1.1.1.1.1.2, ⟨hk.1.1.1.1.1.1.2, ⟨hk.1.1.1.1.1.2, ⟨hk.1.1.1.1.2, ⟨hk.1.1.1.1.1.1.1.1.1.1.1, hk.1.1.1.1.1.1.1.1.1.1.2⟩⟩⟩⟩⟩⟩⟩))⟩, ⟨Kd.R_pp (Kd.R_mono HO375.out (fun _ hk => ⟨hk.1.1.1.1.1.1.1.1.1.2, ⟨hk.1.1.1.1.1.1.1.1.2, ⟨hk.1.1.1.1.1.1.1.2, ⟨hk.1.1.1.1.1.1.2, ⟨hk.1.1.1.1.1.2, ⟨hk.1.1.1.1.2, ⟨hk.1.1.1.1.1.1.1.1.1.1.1, hk.1.1.1.1.1.1.1.1.1.1.2⟩⟩⟩⟩⟩⟩⟩))⟩, ⟨kp_ BK288⟩, ⟨kp_ BK318⟩, ⟨kp_ BK377⟩, ⟨hb_ HB⟩⟩
              ·replace c150 := Bool.eq_false_iff.mpr c150
               subst c150
               have H1 : (laws_FnExactEmptyBlocks.j2 kj81 t344 true t305 t306 t307 t345 t346 t347) = some r := by rw [if_neg (show ¬ (false = true) by decide)] at H; exact H
               clear H
               have H := H1
               clear H1
               have H' := Aside0.mk H
               clear H
               have hnb157 := NB377_288.out
               have hnc157 := NB288_377.out
               have hnb158 := NB377_318.out
               have hnc158 := NB318_377.out
               have hcz159_0 : w142.cell? ⟨gb377, 0, none⟩ = some (.int .i64 0) := (blk_cell BK377.out 0).trans rfl
               have hcz159_1 : w142.cell? ⟨gb377, 1, none⟩ = some (.int .i64 0) := (blk_cell BK377.out 1).trans rfl
               have hcz159_2 : w142.cell? ⟨gb377, 2, none⟩ = some (.int .i64 0) := (blk_cell BK377.out 2).trans rfl
               have hcz159_3 : w142.cell? ⟨gb377, 3, none⟩ = some (.slice none 0 0) := (blk_cell BK377.out 3).trans rfl
               have hcz159_4 : w142.cell? ⟨gb377, 4, none⟩ = some (.slice none 0 0) := (blk_cell BK377.out 4).trans rfl
               have hcz159_5 : w142.cell? ⟨gb377, 5, none⟩ = some (.slice none 0 0) := (blk_cell BK377.out 5).trans rfl
               have hfz159_0 := blk_frozen BK377.out 0
               have hfz159_1 := blk_frozen BK377.out 1
               have hfz159_2 := blk_frozen BK377.out 2
               have hfz159_3 := blk_frozen BK377.out 3
               have hfz159_4 := blk_frozen BK377.out 4
               have hfz159_5 := blk_frozen BK377.out 5
               have hnb160 := NB288_318.out
               have hnc160 := NB318_288.out
               have hcz161_0 : w142.cell? ⟨gb288, 0, none⟩ = some (.int .i64 t275) := (blk_cell BK288.out 0).trans rfl
               have hcz161_1 : w142.cell? ⟨gb288, 1, none⟩ = some (.int .i64 t276) := (blk_cell BK288.out 1).trans rfl
               have hcz161_2 : w142.cell? ⟨gb288, 2, none⟩ = some (.int .i64 t277) := (blk_cell BK288.out 2).trans rfl
               have hcz161_3 : w142.cell? ⟨gb288, 3, none⟩ = some (.slice Ao31 t278.length co31) := (blk_cell BK288.out 3).trans rfl
               have hcz161_4 : w142.cell? ⟨gb288, 4, none⟩ = some (.slice Ao32 t281.length co32) := (blk_cell BK288.out 4).trans rfl
               have hcz161_5 : w142.cell? ⟨gb288, 5, none⟩ = some (.slice Ao33 t284.length co33) := (blk_cell BK288.out 5).trans rfl
               have hfz161_0 := blk_frozen BK288.out 0
               have hfz161_1 := blk_frozen BK288.out 1
               have hfz161_2 := blk_frozen BK288.out 2
               have hfz161_3 := blk_frozen BK288.out 3
               have hfz161_4 := blk_frozen BK288.out 4
               have hfz161_5 := blk_frozen BK288.out 5
               go_wp2_with (first | ((with_reducible refine gate_callee (f := 11) rfl ?_); refine gl_ (some 102) Try.func11 #[.agg #[.int .i64 t364, .int .i64 t365, .int .i64 t366, .slice Ao146 t367.length co146, .slice Ao147 t370.length co147, .slice Ao148 t373.length co148], .agg #[.int .i64 t275, .int .i64 t276, .int .i64 t277, .slice Ao31 t278.length co31, .slice Ao32 t281.length co32, .slice Ao33 t284.length co33]] rfl rfl rfl ?_; (with_reducible refine (laws_eqModel.calls kj81 t364 t365 t366 _ _ t367 _ _ t370 _ _ t373 t275 t276 t277 _ _ t278 _ _ t281 _ _ t284 false _ ?side1 ?side2 ?side3 ?side4 ?side5 ?side6 ?side7 ?side8 ?side9 ?side10 ?side11 ?side12 A149.out).mono ?_); (case side1 => exact (Kd.R_reads' (Kd.R_s HO369 BK377)).2.2); (case side2 => exact (Kd.R_reads' HO369.out).2.1); (case side3 => exact (Kd.R_reads' (Kd.R_s HO372 BK377)).2.2); (case side4 => exact (Kd.R_reads' HO372.out).2.1); (case side5 => exact (Kd.R_reads' (Kd.R_s HO375 BK377)).2.2); (case side6 => exact (Kd.R_reads' HO375.out).2.1); (case side7 => exact (Kd.R_reads' (Kd.R_s HO_289003 BK377)).2.2); (case side8 => exact (Kd.R_reads' HO_289003.out).2.1); (case side9 => exact (Kd.R_reads' (Kd.R_s HO_289004 BK377)).2.2); (case side10 => exact (Kd.R_reads' HO_289004.out).2.1); (case side11 => exact (Kd.R_reads' (Kd.R_s HO_289005 BK377)).2.2); (case side12 => exact (Kd.R_reads' HO_289005.out).2.1); rintro e w162 ⟨rfl, hb⟩; refine ⟨_, rfl, ?_⟩; replace HO_289003 := Kd.R_sb HO_289003 BK377 hb; replace HO_289004 := Kd.R_sb HO_289004 BK377 hb; replace HO_289005 := Kd.R_sb HO_289005 BK377 hb; replace HO_319003 := Kd.R_sb HO_319003 BK377 hb; replace HO_319004 := Kd.R_sb HO_319004 BK377 hb; replace HO_319005 := Kd.R_sb HO_319005 BK377 hb; replace HO369 := Kd.R_sb HO369 BK377 hb; replace HO372 := Kd.R_sb HO372 BK377 hb; replace HO375 := Kd.R_sb HO375 BK377 hb; replace BK288 := kfb_ BK288 NB288_377 hb; replace BK318 := kfb_ BK318 NB318_377 hb; replace HB := hbs_ HB hb; replace BK377 := Aside0.mk (blk_below (g := gb377) (o := .cells #[.int .i64 t364, .int .i64 t365, .int .i64 t366, .slice Ao146 t367.length co146, .slice Ao147 t370.length co147, .slice Ao148 t373.length co148] 30 (0, 0)) (kpq_ (kputs BK377 [(0, .int .i64 t364), (1, .int .i64 t365), (2, .int .i64 t366), (3, .slice Ao146 t367.length co146), (4, .slice Ao147 t370.length co147), (5, .slice Ao148 t373.length co148)])) hb); (try clear hb); (try clear hb2); (try clear hk); (try clear hi)))
               go_meet
               case rel => exact ⟨_, (true), (by first | rfl | (simp; done) | (simp [*]; done)), H', ⟨by have := HJ15.out; have := HJ81.out; first | omega | exact Nat.le_refl _⟩, ⟨Kd.R_pp (Kd.R_mono HO_289003.out (fun _ hk => ⟨hk.1.1.1.1.1.1.1.1, ⟨hk.1.1.1.1.1.1.1.2.1, ⟨hk.1.1.1.1.1.1.1.2.2.1, ⟨hk.1.1.1.1.1.1.1.2.2.2.1, ⟨hk.1.1.1.1.1.1.1.2.2.2.2, ⟨hk.1.1.2, ⟨hk.1.2, hk.2⟩⟩⟩⟩⟩⟩⟩))⟩, ⟨Kd.R_pp (Kd.R_mono HO_289004.out (fun _ hk => ⟨hk.1.1.1.1.1.1.1.1, ⟨hk.1.1.1.1.1.1.1.2.1, ⟨hk.1.1.1.1.1.1.1.2.2.1, ⟨hk.1.1.1.1.1.1.1.2.2.2.1, ⟨hk.1.1.1.1.1.1.1.2.2.2.2, ⟨hk.1.1.2, ⟨hk.1.2, hk.2⟩⟩⟩⟩⟩⟩⟩))⟩, ⟨Kd.R_pp (Kd.R_mono HO_289005.out (fun _ hk => ⟨hk.1.1.1.1.1.1.1.1, ⟨hk.1.1.1.1.1.1.1.2.1, ⟨hk.1.1.1.1.1.1.1.2.2.1, ⟨hk.1.1.1.1.1.1.1.2.2.2.1, ⟨hk.1.1.1.1.1.1.1.2.2.2.2, ⟨hk.1.1.2, ⟨hk.1.2, hk.2⟩⟩⟩⟩⟩⟩⟩))⟩, ⟨Kd.R_pp (Kd.R_mono HO_319003.out (fun _ hk => ⟨hk.1.1.1.1.1.1.1.1, ⟨hk.1.1.1.1.1.1.1.2.1, ⟨hk.1.1.1.1.1.1.1.2.2.1, ⟨hk.1.1.1.1.1.1.1.2.2.2.1, ⟨hk.1.1.1.1.1.1.1.2.2.2.2, ⟨hk.1.1.2, ⟨hk.1.2, hk.2⟩⟩⟩⟩⟩⟩⟩))⟩, ⟨Kd.R_pp (Kd.R_mono HO_319004.out (fun _ hk => ⟨hk.1.1.1.1.1.1.1.1, ⟨hk.1.1.1.1.1.1.1.2.1, ⟨hk.1.1.1.1.1.1.1.2.2.1, ⟨hk.1.1.1.1.1.1.1.2.2.2.1, ⟨hk.1.1.1.1.1.1.1.2.2.2.2, ⟨hk.1.1.2, ⟨hk.1.2, hk.2⟩⟩⟩⟩⟩⟩⟩))⟩, ⟨Kd.R_pp (Kd.R_mono HO_319005.out (fun _ hk => ⟨hk.1.1.1.1.1.1.1.1, ⟨hk.1.1.1.1.1.1.1.2.1, ⟨hk.1.1.1.1.1.1.1.2.2.1, ⟨hk.1.1.1.1.1.1.1.2.2.2.1, ⟨hk.1.1.1.1.1.1.1.2.2.2.2, ⟨hk.1.1.2, ⟨hk.1.2, hk.2⟩⟩⟩⟩⟩⟩⟩))⟩, ⟨Kd.R_pp (Kd.R_mono HO369.out (fun _ hk => ⟨hk.1.1.1.1.1.1.1.1.1.2, ⟨hk.1.1.1.1.1.1.1.1.2, ⟨hk.1.1.1.1.1.1.1.2, ⟨hk.1.1.1.1.1.1.2, ⟨hk.1.1.1.1.1.2, ⟨hk.1.1.1.1.2, ⟨hk.1.1.1.1.1.1.1.1.1.1.1, hk.1.1.1.1.1.1.1.1.1.1.2⟩⟩⟩⟩⟩⟩⟩))⟩, ⟨Kd.R_pp (Kd.R_mono HO372.out (fun _ hk => ⟨hk.1.1.1.1.1.1.1.1.1.2, ⟨hk.1.1.1.1.1.1.1.1.2, ⟨hk.1.1.1.1.1.1.1.2, ⟨hk.1.1.1.1.1.1.2, ⟨hk.1.1.1.1.1.2, ⟨hk.1.1.1.1.2, ⟨hk.1.1.1.1.1.1.1.1.1.1.1, hk.1.1.1.1.1.1.1.1.1.1.2⟩⟩⟩⟩⟩⟩⟩))⟩, ⟨Kd.R_pp (Kd.R_mono HO375.out (fun _ hk => ⟨hk.1.1.1.1.1.1.1.1.1.2, ⟨hk.1.1.1.1.1.1.1.1.2, ⟨hk.1.1.1.1.1.1.1.2, ⟨hk.1.1.1.1.1.1.2, ⟨hk.1.1.1.1.1.2, ⟨hk.1.1.1.1.2, ⟨hk.1.1.1.1.1.1.1.1.1.1.1, hk.1.1.1.1.1.1.1.1.1.1.2⟩⟩⟩⟩⟩⟩⟩))⟩, ⟨kp_ BK288⟩, ⟨kp_ BK318⟩, ⟨kp_ BK377⟩, ⟨hb_ HB⟩⟩
             case rest =>
              clear HC126
              (try clear c1); (try clear c2); (try clear p2); (try clear c3); (try clear c3b0); (try clear c3b1); (try clear c4); (try clear c5); (try clear c6); (try clear c6b0); (try clear c7); (try clear c9); (try clear c10); (try clear c11); (try clear c12); (try clear c13); (try clear c14); (try clear c15); (try clear c16); (try clear c17); (try clear c18); (try clear c29); (try clear c37); (try clear c38); (try clear c48); (try clear c49); (try clear c50); (try clear c56); (try clear c57); (try clear c58); (try clear c59); (try clear c61); (try clear c62); (try clear c65); (try clear c66); (try clear c67); (try clear c69); (try clear c70); (try clear c73); (try clear c76); (try clear c79); (try clear c91); (try clear c92); (try clear c93); (try clear c97); (try clear c97b0); (try clear c99); (try clear c100); (try clear c101); (try clear c103); (try clear c106); (try clear c107); (try clear c109); (try clear c112); (try clear c115); (try clear c115b0); (try clear c116); (try clear c117); (try clear c122); (try clear c122b0); (try clear c122b1); (try clear c127); (try clear c128); (try clear c133); (try clear c143); (try clear c144); (try clear c150); (try clear c151); (try clear c152); (try clear c154); (try clear c157); (try clear c158); (try clear c160); (try clear hcz129_0); (try clear hcz129_1); (try clear hcz129_2); (try clear hcz129_3); (try clear hcz129_4); (try clear hcz129_5); (try clear hcz131_0); (try clear hcz131_1); (try clear hcz131_2); (try clear hcz131_3); (try clear hcz131_4); (try clear hcz131_5); (try clear hcz134_0); (try clear hcz134_1); (try clear hcz134_2); (try clear hcz134_3); (try clear hcz134_4); (try clear hcz134_5); (try clear hcz145_0); (try clear hcz145_1); (try clear hcz145_2); (try clear hcz145_3); (try clear hcz145_4); (try clear hcz145_5); (try clear hfz129_0); (try clear hfz129_1); (try clear hfz129_2); (try clear hfz129_3); (try clear hfz129_4); (try clear hfz129_5); (try clear hfz131_0); (try clear hfz131_1); (try clear hfz131_2); (try clear hfz131_3); (try clear hfz131_4); (try clear hfz131_5); (try clear hfz134_0); (try clear hfz134_1); (try clear hfz134_2); (try clear hfz134_3); (try clear hfz134_4); (try clear hfz134_5); (try clear hfz145_0); (try clear hfz145_1); (try clear hfz145_2); (try clear hfz145_3); (try clear hfz145_4); (try clear hfz145_5)
              obtain ⟨kq, x108_125, rfl, HA, HJ125, HO_289003, HO_289004, HO_289005, HO_319003, HO_319004, HO_319005, HO_378003, HO_378004, HO_378005, BK288, BK318, BK377, HB⟩ := hcut
              have hl319003_125 := (Kd.R_reads' HO_319003.out).1
              rw [hl319003_125] at HO_319003
              (try simp only [hl319003_125])
              (try simp only [hl319003_125] at BK288)
              (try simp only [hl319003_125] at BK318)
              (try simp only [hl319003_125] at BK377)
              (try simp only [hl319003_125] at HO_289003)
              (try simp only [hl319003_125] at HO_289004)
              (try simp only [hl319003_125] at HO_289005)
              (try simp only [hl319003_125] at HO_319004)
              (try simp only [hl319003_125] at HO_319005)
              (try simp only [hl319003_125] at HO_378003)
              (try simp only [hl319003_125] at HO_378004)
              (try simp only [hl319003_125] at HO_378005)
              have hl319004_125 := (Kd.R_reads' HO_319004.out).1
              rw [hl319004_125] at HO_319004
              (try simp only [hl319004_125])
              (try simp only [hl319004_125] at BK288)
              (try simp only [hl319004_125] at BK318)
              (try simp only [hl319004_125] at BK377)
              (try simp only [hl319004_125] at HO_289003)
              (try simp only [hl319004_125] at HO_289004)
              (try simp only [hl319004_125] at HO_289005)
              (try simp only [hl319004_125] at HO_319003)
              (try simp only [hl319004_125] at HO_319005)
              (try simp only [hl319004_125] at HO_378003)
              (try simp only [hl319004_125] at HO_378004)
              (try simp only [hl319004_125] at HO_378005)
              have hl319005_125 := (Kd.R_reads' HO_319005.out).1
              rw [hl319005_125] at HO_319005
              (try simp only [hl319005_125])
              (try simp only [hl319005_125] at BK288)
              (try simp only [hl319005_125] at BK318)
              (try simp only [hl319005_125] at BK377)
              (try simp only [hl319005_125] at HO_289003)
              (try simp only [hl319005_125] at HO_289004)
              (try simp only [hl319005_125] at HO_289005)
              (try simp only [hl319005_125] at HO_319003)
              (try simp only [hl319005_125] at HO_319004)
              (try simp only [hl319005_125] at HO_378003)
              (try simp only [hl319005_125] at HO_378004)
              (try simp only [hl319005_125] at HO_378005)
              cases kq with
              | zero => exact absurd HA.out (by simp [laws_FnExactEmptyBlocks.j2])
              | succ kj125 =>
               have H := HA.out
               clear HA
               simp only [laws_FnExactEmptyBlocks.j2] at H
               by_cases c163 : x108_125 = true
               ·subst c163
                have H1 : (some false) = some r := by rw [if_pos rfl] at H; exact H
                clear H
                have H := H1
                clear H1
                obtain rfl := Option.some.inj H
                go_wp2
                go_ret
                exact ⟨by first | rfl | (simp [errW_none, errW_some] <;> rfl) | (simp [*, errW_none, errW_some] <;> rfl), hb_ HB⟩
               ·replace c163 := Bool.eq_false_iff.mpr c163
                subst c163
                have H1 : ((laws_heldModel.f kj125 t305 t306 t307 t345 t346 t347 1).bind fun t379 => (if t379 < 0 then (some false) else (if t379 = t344 then (some true) else (some false)))) = some r := by rw [if_neg (show ¬ (false = true) by decide)] at H; exact H
                clear H
                have H := H1
                clear H1
                replace H := Option.bind_eq_some_iff.mp H
                obtain ⟨t379, A1640, H⟩ := H
                replace H : (if t379 < 0 then (some false) else (if t379 = t344 then (some true) else (some false))) = some r := H
                have A164 := Aside0.mk A1640
                clear A1640
                by_cases c165 : t379 < 0
                ·rw [if_pos c165] at H
                 have c165b0 : decide (t379 < 0) = true := decide_eq_true c165
                 clear c165
                 obtain rfl := Option.some.inj H
                 have hnb166 := NB318_288.out
                 have hnc166 := NB288_318.out
                 have hnb167 := NB318_377.out
                 have hnc167 := NB377_318.out
                 have hcz168_0 : wc.cell? ⟨gb318, 0, none⟩ = some (.int .i64 t305) := (blk_cell BK318.out 0).trans rfl
                 have hcz168_1 : wc.cell? ⟨gb318, 1, none⟩ = some (.int .i64 t306) := (blk_cell BK318.out 1).trans rfl
                 have hcz168_2 : wc.cell? ⟨gb318, 2, none⟩ = some (.int .i64 t307) := (blk_cell BK318.out 2).trans rfl
                 have hcz168_3 : wc.cell? ⟨gb318, 3, none⟩ = some (.slice Ao52 t345.length co52) := (blk_cell BK318.out 3).trans rfl
                 have hcz168_4 : wc.cell? ⟨gb318, 4, none⟩ = some (.slice Ao53 t346.length co53) := (blk_cell BK318.out 4).trans rfl
                 have hcz168_5 : wc.cell? ⟨gb318, 5, none⟩ = some (.slice Ao54 t347.length co54) := (blk_cell BK318.out 5).trans rfl
                 have hfz168_0 := blk_frozen BK318.out 0
                 have hfz168_1 := blk_frozen BK318.out 1
                 have hfz168_2 := blk_frozen BK318.out 2
                 have hfz168_3 := blk_frozen BK318.out 3
                 have hfz168_4 := blk_frozen BK318.out 4
                 have hfz168_5 := blk_frozen BK318.out 5
                 (try clear BK288); (try clear GW288); (try clear GE288); (try clear NB288_318); (try clear NB318_288); (try clear NB288_377); (try clear NB377_288); (try clear BK377); (try clear GW377); (try clear GE377); (try clear NB377_288); (try clear NB288_377); (try clear NB377_318); (try clear NB318_377)
                 go_wp2_with (first | ((with_reducible refine gate_callee (f := 13) rfl ?_); refine gl_ (some 111) Try.func13 #[.agg #[.int .i64 t305, .int .i64 t306, .int .i64 t307, .slice Ao52 t345.length co52, .slice Ao53 t346.length co53, .slice Ao54 t347.length co54], .int .i64 1] rfl rfl rfl ?_; (with_reducible refine (laws_heldModel.calls kj125 t305 t306 t307 _ _ t345 _ _ t346 _ _ t347 1 t379 _ ?side1 ?side2 ?side3 ?side4 ?side5 ?side6 A164.out).mono ?_); (case side1 => exact Kd.C_o HO_319003); (case side2 => exact (Kd.R_reads' HO_319003.out).2.1); (case side3 => exact Kd.C_o HO_319004); (case side4 => exact (Kd.R_reads' HO_319004.out).2.1); (case side5 => exact Kd.C_o HO_319005); (case side6 => exact (Kd.R_reads' HO_319005.out).2.1); rintro e w169 ⟨rfl, hb⟩; refine ⟨_, rfl, ?_⟩; replace HO_289003 := Kd.R_b HO_289003 hb; replace HO_289004 := Kd.R_b HO_289004 hb; replace HO_289005 := Kd.R_b HO_289005 hb; replace HO_319003 := Kd.R_b HO_319003 hb; replace HO_319004 := Kd.R_b HO_319004 hb; replace HO_319005 := Kd.R_b HO_319005 hb; replace HO_378003 := Kd.R_b HO_378003 hb; replace HO_378004 := Kd.R_b HO_378004 hb; replace HO_378005 := Kd.R_b HO_378005 hb; replace BK318 := kb_ BK318 hb; replace HB := hbs_ HB hb; (try clear hb); (try clear hb2); (try clear hk); (try clear hi)))
                 go_ret
                 exact ⟨by first | rfl | (simp [errW_none, errW_some] <;> rfl) | (simp [*, errW_none, errW_some] <;> rfl), hb_ HB⟩
                ·rw [if_neg c165] at H
                 have c165b0 : decide (t379 < 0) = false := decide_eq_false c165
                 clear c165
                 by_cases c170 : t379 = t344
                 ·rw [if_pos c170] at H
                  have c170b0 : (t379 == t344) = true := beq_iff_eq.mpr c170
                  have c170b1 : (t379 != t344) = false := bne_eq_false_iff_eq.mpr c170
                  clear c170
                  obtain rfl := Option.some.inj H
                  have hnb171 := NB318_288.out
                  have hnc171 := NB288_318.out
                  have hnb172 := NB318_377.out
                  have hnc172 := NB377_318.out
                  have hcz173_0 : wc.cell? ⟨gb318, 0, none⟩ = some (.int .i64 t305) := (blk_cell BK318.out 0).trans rfl
                  have hcz173_1 : wc.cell? ⟨gb318, 1, none⟩ = some (.int .i64 t306) := (blk_cell BK318.out 1).trans rfl
                  have hcz173_2 : wc.cell? ⟨gb318, 2, none⟩ = some (.int .i64 t307) := (blk_cell BK318.out 2).trans rfl
                  have hcz173_3 : wc.cell? ⟨gb318, 3, none⟩ = some (.slice Ao52 t345.length co52) := (blk_cell BK318.out 3).trans rfl
                  have hcz173_4 : wc.cell? ⟨gb318, 4, none⟩ = some (.slice Ao53 t346.length co53) := (blk_cell BK318.out 4).trans rfl
                  have hcz173_5 : wc.cell? ⟨gb318, 5, none⟩ = some (.slice Ao54 t347.length co54) := (blk_cell BK318.out 5).trans rfl
                  have hfz173_0 := blk_frozen BK318.out 0
                  have hfz173_1 := blk_frozen BK318.out 1
                  have hfz173_2 := blk_frozen BK318.out 2
                  have hfz173_3 := blk_frozen BK318.out 3
                  have hfz173_4 := blk_frozen BK318.out 4
                  have hfz173_5 := blk_frozen BK318.out 5
                  (try clear BK288); (try clear GW288); (try clear GE288); (try clear NB288_318); (try clear NB318_288); (try clear NB288_377); (try clear NB377_288); (try clear BK377); (try clear GW377); (try clear GE377); (try clear NB377_288); (try clear NB288_377); (try clear NB377_318); (try clear NB318_377)
                  go_wp2_with (first | ((with_reducible refine gate_callee (f := 13) rfl ?_); refine gl_ (some 111) Try.func13 #[.agg #[.int .i64 t305, .int .i64 t306, .int .i64 t307, .slice Ao52 t345.length co52, .slice Ao53 t346.length co53, .slice Ao54 t347.length co54], .int .i64 1] rfl rfl rfl ?_; (with_reducible refine (laws_heldModel.calls kj125 t305 t306 t307 _ _ t345 _ _ t346 _ _ t347 1 t379 _ ?side1 ?side2 ?side3 ?side4 ?side5 ?side6 A164.out).mono ?_); (case side1 => exact Kd.C_o HO_319003); (case side2 => exact (Kd.R_reads' HO_319003.out).2.1); (case side3 => exact Kd.C_o HO_319004); (case side4 => exact (Kd.R_reads' HO_319004.out).2.1); (case side5 => exact Kd.C_o HO_319005); (case side6 => exact (Kd.R_reads' HO_319005.out).2.1); rintro e w174 ⟨rfl, hb⟩; refine ⟨_, rfl, ?_⟩; replace HO_289003 := Kd.R_b HO_289003 hb; replace HO_289004 := Kd.R_b HO_289004 hb; replace HO_289005 := Kd.R_b HO_289005 hb; replace HO_319003 := Kd.R_b HO_319003 hb; replace HO_319004 := Kd.R_b HO_319004 hb; replace HO_319005 := Kd.R_b HO_319005 hb; replace HO_378003 := Kd.R_b HO_378003 hb; replace HO_378004 := Kd.R_b HO_378004 hb; replace HO_378005 := Kd.R_b HO_378005 hb; replace BK318 := kb_ BK318 hb; replace HB := hbs_ HB hb; (try clear hb); (try clear hb2); (try clear hk); (try clear hi)))
                  go_ret
                  exact ⟨by first | rfl | (simp [errW_none, errW_some] <;> rfl) | (simp [*, errW_none, errW_some] <;> rfl), hb_ HB⟩
                 ·rw [if_neg c170] at H
                  have c170b0 : (t379 == t344) = false := beq_eq_false_iff_ne.mpr c170
                  have c170b1 : (t379 != t344) = true := bne_iff_ne.mpr c170
                  obtain rfl := Option.some.inj H
                  have hnb175 := NB318_288.out
                  have hnc175 := NB288_318.out
                  have hnb176 := NB318_377.out
                  have hnc176 := NB377_318.out
                  have hcz177_0 : wc.cell? ⟨gb318, 0, none⟩ = some (.int .i64 t305) := (blk_cell BK318.out 0).trans rfl
                  have hcz177_1 : wc.cell? ⟨gb318, 1, none⟩ = some (.int .i64 t306) := (blk_cell BK318.out 1).trans rfl
                  have hcz177_2 : wc.cell? ⟨gb318, 2, none⟩ = some (.int .i64 t307) := (blk_cell BK318.out 2).trans rfl
                  have hcz177_3 : wc.cell? ⟨gb318, 3, none⟩ = some (.slice Ao52 t345.length co52) := (blk_cell BK318.out 3).trans rfl
                  have hcz177_4 : wc.cell? ⟨gb318, 4, none⟩ = some (.slice Ao53 t346.length co53) := (blk_cell BK318.out 4).trans rfl
                  have hcz177_5 : wc.cell? ⟨gb318, 5, none⟩ = some (.slice Ao54 t347.length co54) := (blk_cell BK318.out 5).trans rfl
                  have hfz177_0 := blk_frozen BK318.out 0
                  have hfz177_1 := blk_frozen BK318.out 1
                  have hfz177_2 := blk_frozen BK318.out 2
                  have hfz177_3 := blk_frozen BK318.out 3
                  have hfz177_4 := blk_frozen BK318.out 4
                  have hfz177_5 := blk_frozen BK318.out 5
                  (try clear BK288); (try clear GW288); (try clear GE288); (try clear NB288_318); (try clear NB318_288); (try clear NB288_377); (try clear NB377_288); (try clear BK377); (try clear GW377); (try clear GE377); (try clear NB377_288); (try clear NB288_377); (try clear NB377_318); (try clear NB318_377)
                  go_wp2_with (first | ((with_reducible refine gate_callee (f := 13) rfl ?_); refine gl_ (some 111) Try.func13 #[.agg #[.int .i64 t305, .int .i64 t306, .int .i64 t307, .slice Ao52 t345.length co52, .slice Ao53 t346.length co53, .slice Ao54 t347.length co54], .int .i64 1] rfl rfl rfl ?_; (with_reducible refine (laws_heldModel.calls kj125 t305 t306 t307 _ _ t345 _ _ t346 _ _ t347 1 t379 _ ?side1 ?side2 ?side3 ?side4 ?side5 ?side6 A164.out).mono ?_); (case side1 => exact Kd.C_o HO_319003); (case side2 => exact (Kd.R_reads' HO_319003.out).2.1); (case side3 => exact Kd.C_o HO_319004); (case side4 => exact (Kd.R_reads' HO_319004.out).2.1); (case side5 => exact Kd.C_o HO_319005); (case side6 => exact (Kd.R_reads' HO_319005.out).2.1); rintro e w178 ⟨rfl, hb⟩; refine ⟨_, rfl, ?_⟩; replace HO_289003 := Kd.R_b HO_289003 hb; replace HO_289004 := Kd.R_b HO_289004 hb; replace HO_289005 := Kd.R_b HO_289005 hb; replace HO_319003 := Kd.R_b HO_319003 hb; replace HO_319004 := Kd.R_b HO_319004 hb; replace HO_319005 := Kd.R_b HO_319005 hb; replace HO_378003 := Kd.R_b HO_378003 hb; replace HO_378004 := Kd.R_b HO_378004 hb; replace HO_378005 := Kd.R_b HO_378005 hb; replace BK318 := kb_ BK318 hb; replace HB := hbs_ HB hb; (try clear hb); (try clear hb2); (try clear hk); (try clear hi)))
                  go_ret
                  exact ⟨by first | rfl | (simp [errW_none, errW_some] <;> rfl) | (simp [*, errW_none, errW_some] <;> rfl), hb_ HB⟩
            ·rw [if_neg c122] at H
             have c122b0 : (t348 == t344) = false := beq_eq_false_iff_ne.mpr c122
             have c122b1 : (t348 != t344) = true := bne_iff_ne.mpr c122
             obtain rfl := Option.some.inj H
             have hnb179 := NB318_258.out
             have hnc179 := NB258_318.out
             have hnb180 := NB318_288.out
             have hnc180 := NB288_318.out
             have hcz181_0 : wc.cell? ⟨gb318, 0, none⟩ = some (.int .i64 t305) := (blk_cell BK318.out 0).trans rfl
             have hcz181_1 : wc.cell? ⟨gb318, 1, none⟩ = some (.int .i64 t306) := (blk_cell BK318.out 1).trans rfl
             have hcz181_2 : wc.cell? ⟨gb318, 2, none⟩ = some (.int .i64 t307) := (blk_cell BK318.out 2).trans rfl
             have hcz181_3 : wc.cell? ⟨gb318, 3, none⟩ = some (.slice Ao52 t308.length co52) := (blk_cell BK318.out 3).trans rfl
             have hcz181_4 : wc.cell? ⟨gb318, 4, none⟩ = some (.slice Ao53 t311.length co53) := (blk_cell BK318.out 4).trans rfl
             have hcz181_5 : wc.cell? ⟨gb318, 5, none⟩ = some (.slice Ao54 t314.length co54) := (blk_cell BK318.out 5).trans rfl
             have hfz181_0 := blk_frozen BK318.out 0
             have hfz181_1 := blk_frozen BK318.out 1
             have hfz181_2 := blk_frozen BK318.out 2
             have hfz181_3 := blk_frozen BK318.out 3
             have hfz181_4 := blk_frozen BK318.out 4
             have hfz181_5 := blk_frozen BK318.out 5
             (try clear BK258); (try clear GW258); (try clear GE258); (try clear NB258_288); (try clear NB288_258); (try clear NB258_318); (try clear NB318_258); (try clear BK288); (try clear GW288); (try clear GE288); (try clear NB288_258); (try clear NB258_288); (try clear NB288_318); (try clear NB318_288)
             go_wp2_with (first | ((with_reducible refine gate_callee (f := 12) rfl ?_); refine gl_ (some 83) Try.func12 #[.agg #[.int .i64 t305, .int .i64 t306, .int .i64 t307, .slice Ao52 t308.length co52, .slice Ao53 t311.length co53, .slice Ao54 t314.length co54], .int .i64 1] rfl rfl rfl ?_; (with_reducible refine (laws_markModel.calls kj81 t305 t306 t307 (fun k_ => some k_ = (.slice Ao52 t308.length co52 : Value).ownBlock) (.slice Ao52 t308.length co52) t308 (fun k_ => some k_ = (.slice Ao53 t311.length co53 : Value).ownBlock) (.slice Ao53 t311.length co53) t311 (fun k_ => some k_ = (.slice Ao54 t314.length co54 : Value).ownBlock) (.slice Ao54 t314.length co54) t314 1 t344 t345 t346 t347 w _ ?side1 ?side2 ?side3 ?side4 ?side5 ?side6 ?side7 ?side8 ?side9 ?side10 A113.out).mono ?_); (case side1 => repeat (first | (with_reducible first | exact HB.out | apply below_alloc | apply pw_below_drewN | apply below_drew1 | refine below_set ?_ GE318.out) | exact HB.out)); (case side2 => exact Kd.R_tight rfl HO_319003.out); (case side3 => exact fun k_ e_ => (HO_319003.out.1 k_ e_.symm).2.2.2.1); (case side4 => exact fun k_ e_ => (HO_319003.out.1 k_ e_.symm).2.2.2.2); (case side5 => exact Kd.R_tight rfl HO_319004.out); (case side6 => exact fun k_ e_ => (HO_319004.out.1 k_ e_.symm).2.2.2.1); (case side7 => exact fun k_ e_ => (HO_319004.out.1 k_ e_.symm).2.2.2.2); (case side8 => exact Kd.R_tight rfl HO_319005.out); (case side9 => exact fun k_ e_ => (HO_319005.out.1 k_ e_.symm).2.2.2.1); (case side10 => exact fun k_ e_ => (HO_319005.out.1 k_ e_.symm).2.2.2.2); rintro e w182 ⟨rfl, hy0, hy1, hy2, hb, hkp⟩; refine ⟨_, rfl, ?_⟩; replace HO_289003 := Aside0.mk (Kd.R_mono (ok' := fun k_ => some k_ ≠ (.slice Ao32 t281.length co32 : Value).ownBlock ∧ some k_ ≠ (.slice Ao33 t284.length co33 : Value).ownBlock ∧ some k_ ≠ (.slice Ao52 t308.length co52 : Value).ownBlock ∧ some k_ ≠ (.slice Ao53 t311.length co53 : Value).ownBlock ∧ some k_ ≠ (.slice Ao54 t314.length co54 : Value).ownBlock) (Kd.R_keptB (HO_289003.out) hkp (fun k_ hk_ hs_ => Or.elim hs_ (fun e_ => (hk_.2.2.1) e_) (fun e_ => Or.elim e_ (fun e_ => (hk_.2.2.2.1) e_) (fun e_ => (hk_.2.2.2.2) e_)))) (fun k_ hk_ => ⟨hk_.1.1, hk_.1.2.1, hk_.1.2.2.1, hk_.1.2.2.2.1, hk_.1.2.2.2.2⟩)); replace HO_289004 := Aside0.mk (Kd.R_mono (ok' := fun k_ => some k_ ≠ (.slice Ao31 t278.length co31 : Value).ownBlock ∧ some k_ ≠ (.slice Ao33 t284.length co33 : Value).ownBlock ∧ some k_ ≠ (.slice Ao52 t308.length co52 : Value).ownBlock ∧ some k_ ≠ (.slice Ao53 t311.length co53 : Value).ownBlock ∧ some k_ ≠ (.slice Ao54 t314.length co54 : Value).ownBlock) (Kd.R_keptB (HO_289004.out) hkp (fun k_ hk_ hs_ => Or.elim hs_ (fun e_ => (hk_.2.2.1) e_) (fun e_ => Or.elim e_ (fun e_ => (hk_.2.2.2.1) e_) (fun e_ => (hk_.2.2.2.2) e_)))) (fun k_ hk_ => ⟨hk_.1.1, hk_.1.2.1, hk_.1.2.2.1, hk_.1.2.2.2.1, hk_.1.2.2.2.2⟩)); replace HO_289005 := Aside0.mk (Kd.R_mono (ok' := fun k_ => some k_ ≠ (.slice Ao31 t278.length co31 : Value).ownBlock ∧ some k_ ≠ (.slice Ao32 t281.length co32 : Value).ownBlock ∧ some k_ ≠ (.slice Ao52 t308.length co52 : Value).ownBlock ∧ some k_ ≠ (.slice Ao53 t311.length co53 : Value).ownBlock ∧ some k_ ≠ (.slice Ao54 t314.length co54 : Value).ownBlock) (Kd.R_keptB (HO_289005.out) hkp (fun k_ hk_ hs_ => Or.elim hs_ (fun e_ => (hk_.2.2.1) e_) (fun e_ => Or.elim e_ (fun e_ => (hk_.2.2.2.1) e_) (fun e_ => (hk_.2.2.2.2) e_)))) (fun k_ hk_ => ⟨hk_.1.1, hk_.1.2.1, hk_.1.2.2.1, hk_.1.2.2.2.1, hk_.1.2.2.2.2⟩)); replace BK318 := Aside0.mk (blk_kept (kp_ BK318) hkp (fun hs_ => Or.elim hs_ (fun e_ => (fun e_ => (Kd.R_ne HO_319003.out BK318.out (by decide)) e_) e_) (fun e_ => Or.elim e_ (fun e_ => (fun e_ => (Kd.R_ne HO_319004.out BK318.out (by decide)) e_) e_) (fun e_ => (fun e_ => (Kd.R_ne HO_319005.out BK318.out (by decide)) e_) e_)))); replace HB := Aside0.mk (hb); replace HO_319003 := Aside0.mk (Kd.R_reok rfl hy0 (fun k_ e_ => HO_319003.out.1 k_ e_)); replace HO_319004 := Aside0.mk (Kd.R_reok rfl hy1 (fun k_ e_ => HO_319004.out.1 k_ e_)); replace HO_319005 := Aside0.mk (Kd.R_reok rfl hy2 (fun k_ e_ => HO_319005.out.1 k_ e_)); (try clear hb); (try clear hkp); (try clear hy0); (try clear hy1); (try clear hy2); obtain ⟨hcz183_0, hcz183_1, hcz183_2, hcz183_3, hcz183_4, hcz183_5, hfz183_0, hfz183_1, hfz183_2, hfz183_3, hfz183_4, hfz183_5⟩ := bx6 BK318) | ((with_reducible refine gate_callee (f := 13) rfl ?_); refine gl_ (some 86) Try.func13 #[.agg #[.int .i64 t305, .int .i64 t306, .int .i64 t307, .slice Ao52 t345.length co52, .slice Ao53 t346.length co53, .slice Ao54 t347.length co54], .int .i64 1] rfl rfl rfl ?_ (by (try simp only [List.map_toArray, List.map_cons, List.map_nil]); first | done | (rw [show t345.length = t308.length from (Kd.R_reads' HO_319003.out).1.symm, show t346.length = t311.length from (Kd.R_reads' HO_319004.out).1.symm, show t347.length = t314.length from (Kd.R_reads' HO_319005.out).1.symm] <;> rfl) | rfl | (simp only [List.length_drop, List.length_take]; rfl)); (with_reducible refine (laws_heldModel.calls kj81 t305 t306 t307 _ _ t345 _ _ t346 _ _ t347 1 t348 _ ?side1 ?side2 ?side3 ?side4 ?side5 ?side6 A114.out).mono ?_); (case side1 => exact Kd.C_o HO_319003); (case side2 => rw [show t345.length = t308.length from (Kd.R_reads' HO_319003.out).1.symm]; exact (Kd.R_reads' HO_319003.out).2.1); (case side3 => exact Kd.C_o HO_319004); (case side4 => rw [show t346.length = t311.length from (Kd.R_reads' HO_319004.out).1.symm]; exact (Kd.R_reads' HO_319004.out).2.1); (case side5 => exact Kd.C_o HO_319005); (case side6 => rw [show t347.length = t314.length from (Kd.R_reads' HO_319005.out).1.symm]; exact (Kd.R_reads' HO_319005.out).2.1); rintro e w184 ⟨rfl, hb⟩; refine ⟨_, rfl, ?_⟩; replace HO_289003 := Kd.R_b HO_289003 hb; replace HO_289004 := Kd.R_b HO_289004 hb; replace HO_289005 := Kd.R_b HO_289005 hb; replace HO_319003 := Kd.R_b HO_319003 hb; replace HO_319004 := Kd.R_b HO_319004 hb; replace HO_319005 := Kd.R_b HO_319005 hb; replace BK318 := kb_ BK318 hb; replace HB := hbs_ HB hb; (try clear hb); (try clear hb2); (try clear hk); (try clear hi)))
             go_ret
             exact ⟨by first | rfl | (simp [errW_none, errW_some] <;> rfl) | (simp [*, errW_none, errW_some] <;> rfl), hb_ HB⟩
       ·replace c79 := Bool.eq_false_iff.mpr c79
        subst c79
        have H1 : (some false) = some r := by rw [if_neg (show ¬ (false = true) by decide)] at H; exact H
        clear H
        have H := H1
        clear H1
        obtain rfl := Option.some.inj H
        (try clear BK288); (try clear GW288); (try clear GE288); (try clear NB288_258); (try clear NB258_288); (try clear NB288_301); (try clear NB301_288); (try clear NB288_318); (try clear NB318_288); (try clear BK318); (try clear GW318); (try clear GE318); (try clear NB318_258); (try clear NB258_318); (try clear NB318_288); (try clear NB288_318); (try clear NB318_301); (try clear NB301_318)
        try go_wp2
        have n0_ := Aside0.mk (Kd.R_drew HO_9.out)
        have n1_ := Aside0.mk (Kd.R_drew HO_289003.out)
        have n2_ := Aside0.mk (Kd.R_drew HO_289004.out)
        have n3_ := Aside0.mk (Kd.R_drew HO_289005.out)
        have n4_ := Aside0.mk (Kd.R_drew HO_302003.out)
        have n5_ := Aside0.mk (Kd.R_drew HO_302004.out)
        have n6_ := Aside0.mk (Kd.R_drew HO_302005.out)
        have n7_ := Aside0.mk (Kd.R_drew HO_319003.out)
        have n8_ := Aside0.mk (Kd.R_drew HO_319004.out)
        have n9_ := Aside0.mk (Kd.R_drew HO_319005.out)
        have n10_ := Aside0.mk (blk_drew BK258.out)
        have n11_ := Aside0.mk (blk_drew BK301.out)
        have n12_ := Aside0.mk (below_drew1 HB.out)
        clear HO_9
        clear HO_289003
        clear HO_289004
        clear HO_289005
        clear HO_302003
        clear HO_302004
        clear HO_302005
        clear HO_319003
        clear HO_319004
        clear HO_319005
        clear BK258
        clear BK301
        clear HB
        have HO_9 := n0_
        have HO_289003 := n1_
        have HO_289004 := n2_
        have HO_289005 := n3_
        have HO_302003 := n4_
        have HO_302004 := n5_
        have HO_302005 := n6_
        have HO_319003 := n7_
        have HO_319004 := n8_
        have HO_319005 := n9_
        have BK258 := n10_
        have BK301 := n11_
        have HB := n12_
        clear n0_ n1_ n2_ n3_ n4_ n5_ n6_ n7_ n8_ n9_ n10_ n11_ n12_
        refine start_ (n := 5) (S := fun w' => w'.cell? ⟨gb301, 0, none⟩ = some (.int .i64 t289) ∧ w'.cell? ⟨gb301, 1, none⟩ = some (.int .i64 t290) ∧ w'.cell? ⟨gb301, 2, none⟩ = some (.int .i64 t291) ∧ w'.cell? ⟨gb301, 3, none⟩ = some (.slice Ao40 t292.length co40) ∧ w'.cell? ⟨gb301, 4, none⟩ = some (.slice Ao41 t295.length co41) ∧ w'.cell? ⟨gb301, 5, none⟩ = some (.slice Ao42 t298.length co42) ∧ w'.cell? ⟨gb258, 0, none⟩ = some (.int .i64 a0_0) ∧ w'.cell? ⟨gb258, 1, none⟩ = some (.int .i64 a0_1) ∧ w'.cell? ⟨gb258, 2, none⟩ = some (.int .i64 a0_2) ∧ w'.cell? ⟨gb258, 3, none⟩ = some (.slice A0_3 l0_3.length c0_3) ∧ w'.cell? ⟨gb258, 4, none⟩ = some (.slice A0_4 l0_4.length c0_4) ∧ w'.cell? ⟨gb258, 5, none⟩ = some (.slice A0_5 l0_5.length c0_5)) (ds := []) #[false, false, false, false, false] (by kernel_rfl) rfl rfl ⟨(blk_cell BK301.out 0).trans rfl, (blk_cell BK301.out 1).trans rfl, (blk_cell BK301.out 2).trans rfl, (blk_cell BK301.out 3).trans rfl, (blk_cell BK301.out 4).trans rfl, (blk_cell BK301.out 5).trans rfl, (blk_cell BK258.out 0).trans rfl, (blk_cell BK258.out 1).trans rfl, (blk_cell BK258.out 2).trans rfl, (blk_cell BK258.out 3).trans rfl, (blk_cell BK258.out 4).trans rfl, (blk_cell BK258.out 5).trans rfl⟩ (fun hHeld => ?_)
        generalize wc.drew = w185 at HO_9 HO_289003 HO_289004 HO_289005 HO_302003 HO_302004 HO_302005 HO_319003 HO_319004 HO_319005 BK258 BK301 HB hHeld ⊢
        refine take_ (i := 0) (N := some 52) (v := ?_) (a' := ?_) #[true, false, false, false, false] rfl rfl (by kernel_rfl) (fun _ _ _ h => h) (Or.inl ⟨by rfl, ?_⟩) hHeld ?_ ?_
        rotate_left
        ·rintro w' ⟨s0, s1, s2, s3, s4, s5, s6, s7, s8, s9, s10, s11⟩
         go_simp
         with_reducible rfl
        rotate_left
        ·simp only [Act.put, List.setIfInBounds_toArray, List.set_cons_zero, List.set_cons_succ, i64_w, i32_w]
         rfl
        refine take_ (i := 1) (N := some 53) (v := ?_) (a' := ?_) #[true, true, false, false, false] rfl rfl (by kernel_rfl) (fun _ _ _ h => h) (Or.inl ⟨by rfl, ?_⟩) hHeld ?_ ?_
        rotate_left
        ·rintro w' ⟨s0, s1, s2, s3, s4, s5, s6, s7, s8, s9, s10, s11⟩
         go_simp
         with_reducible rfl
        rotate_left
        ·simp only [Act.put, List.setIfInBounds_toArray, List.set_cons_zero, List.set_cons_succ, i64_w, i32_w]
         rfl
        refine one_ (i := 2) (N := some 54) #[true, true, true, false, false] rfl rfl (by kernel_rfl) (by decide) (fun K hK => ?_)
        refine goes_ Try.func9 (by kernel_rfl) rfl #[.agg #[.int .i64 a0_0, .int .i64 a0_1, .int .i64 a0_2, .slice A0_3 l0_3.length c0_3, .slice A0_4 l0_4.length c0_4, .slice A0_5 l0_5.length c0_5]] (by rfl) rfl rfl (by (try simp only [List.map_toArray, List.map_cons, List.map_nil]); first | done | rfl | (simp only [List.length_drop, List.length_take]; rfl)) ?_
        with_reducible refine (laws_toModel.calls kj15 a0_0 a0_1 a0_2 _ _ l0_3 _ _ l0_4 _ _ l0_5 t320 t321 t322 t323 t326 t329 _ ?side1 ?side2 ?side3 ?side4 ?side5 ?side6 A74.out).mono ?_
        (case side1 => exact Kd.C_w HR0_3 HB)
        (case side2 => exact HC0_3.out)
        (case side3 => exact Kd.C_w HR0_4 HB)
        (case side4 => exact HC0_4.out)
        (case side5 => exact Kd.C_w HR0_5 HB)
        (case side6 => exact HC0_5.out)
        rintro e w186 ⟨v324, v327, v330, rfl, ho0, ho1, ho2, hb⟩
        refine ⟨_, rfl, ?_⟩
        have n0_ := Aside0.mk (Kd.R_mono (Kd.R_told (Kd.R_told (Kd.R_told (Kd.R_old (Kd.R_p HO_9) hb) (Kd.R_base ho0)) (Kd.R_base ho1)) (Kd.R_base ho2)) (fun _ h_ => h_.1))
        have n1_ := Aside0.mk (Kd.R_mono (Kd.R_told (Kd.R_told (Kd.R_told (Kd.R_old (Kd.R_p HO_289003) hb) (Kd.R_base ho0)) (Kd.R_base ho1)) (Kd.R_base ho2)) (fun _ h_ => h_.1))
        have n2_ := Aside0.mk (Kd.R_mono (Kd.R_told (Kd.R_told (Kd.R_told (Kd.R_old (Kd.R_p HO_289004) hb) (Kd.R_base ho0)) (Kd.R_base ho1)) (Kd.R_base ho2)) (fun _ h_ => h_.1))
        have n3_ := Aside0.mk (Kd.R_mono (Kd.R_told (Kd.R_told (Kd.R_told (Kd.R_old (Kd.R_p HO_289005) hb) (Kd.R_base ho0)) (Kd.R_base ho1)) (Kd.R_base ho2)) (fun _ h_ => h_.1))
        have n4_ := Aside0.mk (Kd.R_mono (Kd.R_told (Kd.R_told (Kd.R_told (Kd.R_old (Kd.R_p HO_302003) hb) (Kd.R_base ho0)) (Kd.R_base ho1)) (Kd.R_base ho2)) (fun _ h_ => h_.1))
        have n5_ := Aside0.mk (Kd.R_mono (Kd.R_told (Kd.R_told (Kd.R_told (Kd.R_old (Kd.R_p HO_302004) hb) (Kd.R_base ho0)) (Kd.R_base ho1)) (Kd.R_base ho2)) (fun _ h_ => h_.1))
        have n6_ := Aside0.mk (Kd.R_mono (Kd.R_told (Kd.R_told (Kd.R_told (Kd.R_old (Kd.R_p HO_302005) hb) (Kd.R_base ho0)) (Kd.R_base ho1)) (Kd.R_base ho2)) (fun _ h_ => h_.1))
        have n7_ := Aside0.mk (Kd.R_mono (Kd.R_told (Kd.R_told (Kd.R_told (Kd.R_old (Kd.R_p HO_319003) hb) (Kd.R_base ho0)) (Kd.R_base ho1)) (Kd.R_base ho2)) (fun _ h_ => h_.1))
        have n8_ := Aside0.mk (Kd.R_mono (Kd.R_told (Kd.R_told (Kd.R_told (Kd.R_old (Kd.R_p HO_319004) hb) (Kd.R_base ho0)) (Kd.R_base ho1)) (Kd.R_base ho2)) (fun _ h_ => h_.1))
        have n9_ := Aside0.mk (Kd.R_mono (Kd.R_told (Kd.R_told (Kd.R_told (Kd.R_old (Kd.R_p HO_319005) hb) (Kd.R_base ho0)) (Kd.R_base ho1)) (Kd.R_base ho2)) (fun _ h_ => h_.1))
        have n10_ := Aside0.mk (Kd.R_lower (Kd.R_new' (Kd.R_new' (Kd.R_new' (Kd.R_new' (Kd.R_new' (Kd.R_new' (Kd.R_new' (Kd.R_new' (Kd.R_new' (Kd.R_new' ho0 (Kd.R_lt (Kd.R_p HO_9))) (Kd.R_lt (Kd.R_p HO_289003))) (Kd.R_lt (Kd.R_p HO_289004))) (Kd.R_lt (Kd.R_p HO_289005))) (Kd.R_lt (Kd.R_p HO_302003))) (Kd.R_lt (Kd.R_p HO_302004))) (Kd.R_lt (Kd.R_p HO_302005))) (Kd.R_lt (Kd.R_p HO_319003))) (Kd.R_lt (Kd.R_p HO_319004))) (Kd.R_lt (Kd.R_p HO_319005))) (below_size (hb_ HB)))
        have n11_ := Aside0.mk (Kd.R_lower (Kd.R_new' (Kd.R_new' (Kd.R_new' (Kd.R_new' (Kd.R_new' (Kd.R_new' (Kd.R_new' (Kd.R_new' (Kd.R_new' (Kd.R_new' ho1 (Kd.R_lt (Kd.R_p HO_9))) (Kd.R_lt (Kd.R_p HO_289003))) (Kd.R_lt (Kd.R_p HO_289004))) (Kd.R_lt (Kd.R_p HO_289005))) (Kd.R_lt (Kd.R_p HO_302003))) (Kd.R_lt (Kd.R_p HO_302004))) (Kd.R_lt (Kd.R_p HO_302005))) (Kd.R_lt (Kd.R_p HO_319003))) (Kd.R_lt (Kd.R_p HO_319004))) (Kd.R_lt (Kd.R_p HO_319005))) (below_size (hb_ HB)))
        have n12_ := Aside0.mk (Kd.R_lower (Kd.R_new' (Kd.R_new' (Kd.R_new' (Kd.R_new' (Kd.R_new' (Kd.R_new' (Kd.R_new' (Kd.R_new' (Kd.R_new' (Kd.R_new' ho2 (Kd.R_lt (Kd.R_p HO_9))) (Kd.R_lt (Kd.R_p HO_289003))) (Kd.R_lt (Kd.R_p HO_289004))) (Kd.R_lt (Kd.R_p HO_289005))) (Kd.R_lt (Kd.R_p HO_302003))) (Kd.R_lt (Kd.R_p HO_302004))) (Kd.R_lt (Kd.R_p HO_302005))) (Kd.R_lt (Kd.R_p HO_319003))) (Kd.R_lt (Kd.R_p HO_319004))) (Kd.R_lt (Kd.R_p HO_319005))) (below_size (hb_ HB)))
        have n13_ := Aside0.mk (blk_below (kp_ BK258) hb)
        have n14_ := Aside0.mk (blk_below (kp_ BK301) hb)
        have n15_ := Aside0.mk (below_step (hb_ HB) hb)
        clear HO_9
        clear HO_289003
        clear HO_289004
        clear HO_289005
        clear HO_302003
        clear HO_302004
        clear HO_302005
        clear HO_319003
        clear HO_319004
        clear HO_319005
        clear BK258
        clear BK301
        clear HB
        have HO_9 := n0_
        have HO_289003 := n1_
        have HO_289004 := n2_
        have HO_289005 := n3_
        have HO_302003 := n4_
        have HO_302004 := n5_
        have HO_302005 := n6_
        have HO_319003 := n7_
        have HO_319004 := n8_
        have HO_319005 := n9_
        have HO325 := n10_
        have HO328 := n11_
        have HO331 := n12_
        have BK258 := n13_
        have BK301 := n14_
        have HB := n15_
        clear n0_ n1_ n2_ n3_ n4_ n5_ n6_ n7_ n8_ n9_ n10_ n11_ n12_ n13_ n14_ n15_
        (try clear hb)
        (try clear hb2)
        (try clear hk)
        (try clear hi)
        (try clear ho0)
        (try clear ho1)
        (try clear ho2)
        obtain ⟨Ao187, co187, eo187⟩ := Kd.R_slice HO325.out
        (first | subst eo187 | (injection eo187 with f1_ f2_ f3_; have f4_ := f1_.symm; have f5_ := f3_.symm; clear f1_ f2_ f3_; subst f4_; subst f5_))
        obtain ⟨Ao188, co188, eo188⟩ := Kd.R_slice HO328.out
        (first | subst eo188 | (injection eo188 with f1_ f2_ f3_; have f4_ := f1_.symm; have f5_ := f3_.symm; clear f1_ f2_ f3_; subst f4_; subst f5_))
        obtain ⟨Ao189, co189, eo189⟩ := Kd.R_slice HO331.out
        (first | subst eo189 | (injection eo189 with f1_ f2_ f3_; have f4_ := f1_.symm; have f5_ := f3_.symm; clear f1_ f2_ f3_; subst f4_; subst f5_))
        refine hK.out _ _ ⟨(blk_cell BK301.out 0).trans rfl, (blk_cell BK301.out 1).trans rfl, (blk_cell BK301.out 2).trans rfl, (blk_cell BK301.out 3).trans rfl, (blk_cell BK301.out 4).trans rfl, (blk_cell BK301.out 5).trans rfl, (blk_cell BK258.out 0).trans rfl, (blk_cell BK258.out 1).trans rfl, (blk_cell BK258.out 2).trans rfl, (blk_cell BK258.out 3).trans rfl, (blk_cell BK258.out 4).trans rfl, (blk_cell BK258.out 5).trans rfl⟩ (fun hHeld => ?_)
        clear hK K
        refine norm_ (a' := ?_) ?_ ?_
        rotate_left
        ·show Act.put _ (some 54) _ = _
         simp only [Act.put, List.setIfInBounds_toArray, List.set_cons_zero, List.set_cons_succ, i64_w, i32_w]
         rfl
        refine one_ (i := 3) (N := some 55) #[true, true, true, true, false] rfl rfl (by kernel_rfl) (by decide) (fun K hK => ?_)
        refine goes_ Try.func11 (by kernel_rfl) rfl #[.agg #[.int .i64 t289, .int .i64 t290, .int .i64 t291, .slice Ao40 t292.length co40, .slice Ao41 t295.length co41, .slice Ao42 t298.length co42], .agg #[.int .i64 t320, .int .i64 t321, .int .i64 t322, .slice Ao187 t323.length co187, .slice Ao188 t326.length co188, .slice Ao189 t329.length co189]] (by rfl) rfl rfl (by (try simp only [List.map_toArray, List.map_cons, List.map_nil]); first | done | rfl | (simp only [List.length_drop, List.length_take]; rfl)) ?_
        with_reducible refine (laws_eqModel.calls kj15 t289 t290 t291 _ _ t292 _ _ t295 _ _ t298 t320 t321 t322 _ _ t323 _ _ t326 _ _ t329 true _ ?side1 ?side2 ?side3 ?side4 ?side5 ?side6 ?side7 ?side8 ?side9 ?side10 ?side11 ?side12 A75.out).mono ?_
        (case side1 => exact Kd.C_o HO_302003)
        (case side2 => exact (Kd.R_reads' HO_302003.out).2.1)
        (case side3 => exact Kd.C_o HO_302004)
        (case side4 => exact (Kd.R_reads' HO_302004.out).2.1)
        (case side5 => exact Kd.C_o HO_302005)
        (case side6 => exact (Kd.R_reads' HO_302005.out).2.1)
        (case side7 => exact Kd.C_o HO325)
        (case side8 => exact (Kd.R_reads' HO325.out).2.1)
        (case side9 => exact Kd.C_o HO328)
        (case side10 => exact (Kd.R_reads' HO328.out).2.1)
        (case side11 => exact Kd.C_o HO331)
        (case side12 => exact (Kd.R_reads' HO331.out).2.1)
        rintro e w190 ⟨rfl, hb⟩
        refine ⟨_, rfl, ?_⟩
        have n0_ := Aside0.mk (Kd.R_below (Kd.R_p HO_9) hb)
        have n1_ := Aside0.mk (Kd.R_below (Kd.R_p HO_289003) hb)
        have n2_ := Aside0.mk (Kd.R_below (Kd.R_p HO_289004) hb)
        have n3_ := Aside0.mk (Kd.R_below (Kd.R_p HO_289005) hb)
        have n4_ := Aside0.mk (Kd.R_below (Kd.R_p HO_302003) hb)
        have n5_ := Aside0.mk (Kd.R_below (Kd.R_p HO_302004) hb)
        have n6_ := Aside0.mk (Kd.R_below (Kd.R_p HO_302005) hb)
        have n7_ := Aside0.mk (Kd.R_below (Kd.R_p HO_319003) hb)
        have n8_ := Aside0.mk (Kd.R_below (Kd.R_p HO_319004) hb)
        have n9_ := Aside0.mk (Kd.R_below (Kd.R_p HO_319005) hb)
        have n10_ := Aside0.mk (Kd.R_below (Kd.R_p HO325) hb)
        have n11_ := Aside0.mk (Kd.R_below (Kd.R_p HO328) hb)
        have n12_ := Aside0.mk (Kd.R_below (Kd.R_p HO331) hb)
        have n13_ := Aside0.mk (blk_below (kp_ BK258) hb)
        have n14_ := Aside0.mk (blk_below (kp_ BK301) hb)
        have n15_ := Aside0.mk (below_step (hb_ HB) hb)
        clear HO_9
        clear HO_289003
        clear HO_289004
        clear HO_289005
        clear HO_302003
        clear HO_302004
        clear HO_302005
        clear HO_319003
        clear HO_319004
        clear HO_319005
        clear HO325
        clear HO328
        clear HO331
        clear BK258
        clear BK301
        clear HB
        have HO_9 := n0_
        have HO_289003 := n1_
        have HO_289004 := n2_
        have HO_289005 := n3_
        have HO_302003 := n4_
        have HO_302004 := n5_
        have HO_302005 := n6_
        have HO_319003 := n7_
        have HO_319004 := n8_
        have HO_319005 := n9_
        have HO325 := n10_
        have HO328 := n11_
        have HO331 := n12_
        have BK258 := n13_
        have BK301 := n14_
        have HB := n15_
        clear n0_ n1_ n2_ n3_ n4_ n5_ n6_ n7_ n8_ n9_ n10_ n11_ n12_ n13_ n14_ n15_
        (try clear hb)
        (try clear hb2)
        (try clear hk)
        (try clear hi)
        refine hK.out _ _ ⟨(blk_cell BK301.out 0).trans rfl, (blk_cell BK301.out 1).trans rfl, (blk_cell BK301.out 2).trans rfl, (blk_cell BK301.out 3).trans rfl, (blk_cell BK301.out 4).trans rfl, (blk_cell BK301.out 5).trans rfl, (blk_cell BK258.out 0).trans rfl, (blk_cell BK258.out 1).trans rfl, (blk_cell BK258.out 2).trans rfl, (blk_cell BK258.out 3).trans rfl, (blk_cell BK258.out 4).trans rfl, (blk_cell BK258.out 5).trans rfl⟩ (fun hHeld => ?_)
        clear hK K
        refine norm_ (a' := ?_) ?_ ?_
        rotate_left
        ·show Act.put _ (some 55) _ = _
         simp only [Act.put, List.setIfInBounds_toArray, List.set_cons_zero, List.set_cons_succ, i64_w, i32_w]
         rfl
        refine pure_ (i := 4) (N := some 56) (v := ?_) (a' := ?_) #[true, true, true, true, true] rfl rfl (by kernel_rfl) (fun _ _ _ h => h) (Or.inl ⟨by rfl, ?_⟩) ?_ ?_
        rotate_left
        ·intro w'
         go_simp
         with_reducible rfl
        rotate_left
        ·simp only [Act.put, List.setIfInBounds_toArray, List.set_cons_zero, List.set_cons_succ, i64_w, i32_w]
         rfl
        refine done_ (by kernel_rfl) ?_
        (try clear BK258); (try clear GW258); (try clear GE258); (try clear NB258_301); (try clear NB301_258); (try clear BK301); (try clear GW301); (try clear GE301); (try clear NB301_258); (try clear NB258_301); (try clear HO325); (try clear HO328); (try clear HO331)
        try go_wp2_with (first | ((with_reducible refine gate_callee (f := 15) rfl ?_); refine gl_ (some 59) Try.func15 #[.slice A1 l1.length c1] rfl rfl rfl ?_; (with_reducible refine (laws_toIntS.calls kj15 _ _ l1 t333 _ ?side1 ?side2 A77.out).mono ?_); (case side1 => exact Kd.C_w HR1 HB); (case side2 => exact HC1.out); rintro e w191 ⟨v334, rfl, ho0, hb⟩; refine ⟨_, rfl, ?_⟩; have HO335 := Aside0.mk (Kd.R_lower (Kd.R_new' (Kd.R_new' (Kd.R_new' (Kd.R_new' (Kd.R_new' (Kd.R_new' (Kd.R_new' (Kd.R_new' (Kd.R_new' (Kd.R_new' ho0 (Kd.R_lt (Kd.R_p HO_9))) (Kd.R_lt (Kd.R_p HO_289003))) (Kd.R_lt (Kd.R_p HO_289004))) (Kd.R_lt (Kd.R_p HO_289005))) (Kd.R_lt (Kd.R_p HO_302003))) (Kd.R_lt (Kd.R_p HO_302004))) (Kd.R_lt (Kd.R_p HO_302005))) (Kd.R_lt (Kd.R_p HO_319003))) (Kd.R_lt (Kd.R_p HO_319004))) (Kd.R_lt (Kd.R_p HO_319005))) (below_size (hb_ HB))); replace HO_9 := Kd.R_e HO_9 ho0 hb; replace HO_289003 := Kd.R_e HO_289003 ho0 hb; replace HO_289004 := Kd.R_e HO_289004 ho0 hb; replace HO_289005 := Kd.R_e HO_289005 ho0 hb; replace HO_302003 := Kd.R_e HO_302003 ho0 hb; replace HO_302004 := Kd.R_e HO_302004 ho0 hb; replace HO_302005 := Kd.R_e HO_302005 ho0 hb; replace HO_319003 := Kd.R_e HO_319003 ho0 hb; replace HO_319004 := Kd.R_e HO_319004 ho0 hb; replace HO_319005 := Kd.R_e HO_319005 ho0 hb; replace HB := hbs_ HB hb; (try clear hb); (try clear hb2); (try clear hk); (try clear hi); (try clear ho0); obtain ⟨Ao192, co192, eo192⟩ := Kd.R_slice HO335.out; subst eo192) | ((with_reducible refine gate_callee (f := 17) rfl ?_); refine gl_ (some 60) Try.func17 #[.slice Ao45 t302.length co45, .slice Ao192 t333.length co192] rfl rfl rfl ?_; (with_reducible refine (laws_eqIntS.calls kj15 _ _ t302 _ _ t333 false _ ?side1 ?side2 ?side3 ?side4 A78.out).mono ?_); (case side1 => exact Kd.C_o HO_9); (case side2 => exact (Kd.R_reads' HO_9.out).2.1); (case side3 => exact Kd.C_o HO335); (case side4 => exact (Kd.R_reads' HO335.out).2.1); rintro e w' ⟨rfl, ⟨nd, rfl⟩⟩; refine ⟨_, rfl, ?_⟩))
        go_ret
        exact ⟨by first | rfl | (simp [errW_none, errW_some] <;> rfl) | (simp [*, errW_none, errW_some] <;> rfl), hb_ HB⟩
      ·replace c76 := Bool.eq_false_iff.mpr c76
       subst c76
       have H1 : (some false) = some r := by rw [if_neg (show ¬ (false = true) by decide)] at H; exact H
       clear H
       have H := H1
       clear H1
       obtain rfl := Option.some.inj H
       (try clear BK288); (try clear GW288); (try clear GE288); (try clear NB288_258); (try clear NB258_288); (try clear NB288_301); (try clear NB301_288); (try clear NB288_318); (try clear NB318_288); (try clear BK318); (try clear GW318); (try clear GE318); (try clear NB318_258); (try clear NB258_318); (try clear NB318_288); (try clear NB288_318); (try clear NB318_301); (try clear NB301_318)
       try go_wp2
       have n0_ := Aside0.mk (Kd.R_drew HO_9.out)
       have n1_ := Aside0.mk (Kd.R_drew HO_289003.out)
       have n2_ := Aside0.mk (Kd.R_drew HO_289004.out)
       have n3_ := Aside0.mk (Kd.R_drew HO_289005.out)
       have n4_ := Aside0.mk (Kd.R_drew HO_302003.out)
       have n5_ := Aside0.mk (Kd.R_drew HO_302004.out)
       have n6_ := Aside0.mk (Kd.R_drew HO_302005.out)
       have n7_ := Aside0.mk (Kd.R_drew HO_319003.out)
       have n8_ := Aside0.mk (Kd.R_drew HO_319004.out)
       have n9_ := Aside0.mk (Kd.R_drew HO_319005.out)
       have n10_ := Aside0.mk (blk_drew BK258.out)
       have n11_ := Aside0.mk (blk_drew BK301.out)
       have n12_ := Aside0.mk (below_drew1 HB.out)
       clear HO_9
       clear HO_289003
       clear HO_289004
       clear HO_289005
       clear HO_302003
       clear HO_302004
       clear HO_302005
       clear HO_319003
       clear HO_319004
       clear HO_319005
       clear BK258
       clear BK301
       clear HB
       have HO_9 := n0_
       have HO_289003 := n1_
       have HO_289004 := n2_
       have HO_289005 := n3_
       have HO_302003 := n4_
       have HO_302004 := n5_
       have HO_302005 := n6_
       have HO_319003 := n7_
       have HO_319004 := n8_
       have HO_319005 := n9_
       have BK258 := n10_
       have BK301 := n11_
       have HB := n12_
       clear n0_ n1_ n2_ n3_ n4_ n5_ n6_ n7_ n8_ n9_ n10_ n11_ n12_
       refine start_ (n := 5) (S := fun w' => w'.cell? ⟨gb301, 0, none⟩ = some (.int .i64 t289) ∧ w'.cell? ⟨gb301, 1, none⟩ = some (.int .i64 t290) ∧ w'.cell? ⟨gb301, 2, none⟩ = some (.int .i64 t291) ∧ w'.cell? ⟨gb301, 3, none⟩ = some (.slice Ao40 t292.length co40) ∧ w'.cell? ⟨gb301, 4, none⟩ = some (.slice Ao41 t295.length co41) ∧ w'.cell? ⟨gb301, 5, none⟩ = some (.slice Ao42 t298.length co42) ∧ w'.cell? ⟨gb258, 0, none⟩ = some (.int .i64 a0_0) ∧ w'.cell? ⟨gb258, 1, none⟩ = some (.int .i64 a0_1) ∧ w'.cell? ⟨gb258, 2, none⟩ = some (.int .i64 a0_2) ∧ w'.cell? ⟨gb258, 3, none⟩ = some (.slice A0_3 l0_3.length c0_3) ∧ w'.cell? ⟨gb258, 4, none⟩ = some (.slice A0_4 l0_4.length c0_4) ∧ w'.cell? ⟨gb258, 5, none⟩ = some (.slice A0_5 l0_5.length c0_5)) (ds := []) #[false, false, false, false, false] (by kernel_rfl) rfl rfl ⟨(blk_cell BK301.out 0).trans rfl, (blk_cell BK301.out 1).trans rfl, (blk_cell BK301.out 2).trans rfl, (blk_cell BK301.out 3).trans rfl, (blk_cell BK301.out 4).trans rfl, (blk_cell BK301.out 5).trans rfl, (blk_cell BK258.out 0).trans rfl, (blk_cell BK258.out 1).trans rfl, (blk_cell BK258.out 2).trans rfl, (blk_cell BK258.out 3).trans rfl, (blk_cell BK258.out 4).trans rfl, (blk_cell BK258.out 5).trans rfl⟩ (fun hHeld => ?_)
       generalize wc.drew = w193 at HO_9 HO_289003 HO_289004 HO_289005 HO_302003 HO_302004 HO_302005 HO_319003 HO_319004 HO_319005 BK258 BK301 HB hHeld ⊢
       refine take_ (i := 0) (N := some 52) (v := ?_) (a' := ?_) #[true, false, false, false, false] rfl rfl (by kernel_rfl) (fun _ _ _ h => h) (Or.inl ⟨by rfl, ?_⟩) hHeld ?_ ?_
       rotate_left
       ·rintro w' ⟨s0, s1, s2, s3, s4, s5, s6, s7, s8, s9, s10, s11⟩
        go_simp
        with_reducible rfl
       rotate_left
       ·simp only [Act.put, List.setIfInBounds_toArray, List.set_cons_zero, List.set_cons_succ, i64_w, i32_w]
        rfl
       refine take_ (i := 1) (N := some 53) (v := ?_) (a' := ?_) #[true, true, false, false, false] rfl rfl (by kernel_rfl) (fun _ _ _ h => h) (Or.inl ⟨by rfl, ?_⟩) hHeld ?_ ?_
       rotate_left
       ·rintro w' ⟨s0, s1, s2, s3, s4, s5, s6, s7, s8, s9, s10, s11⟩
        go_simp
        with_reducible rfl
       rotate_left
       ·simp only [Act.put, List.setIfInBounds_toArray, List.set_cons_zero, List.set_cons_succ, i64_w, i32_w]
        rfl
       refine one_ (i := 2) (N := some 54) #[true, true, true, false, false] rfl rfl (by kernel_rfl) (by decide) (fun K hK => ?_)
       refine goes_ Try.func9 (by kernel_rfl) rfl #[.agg #[.int .i64 a0_0, .int .i64 a0_1, .int .i64 a0_2, .slice A0_3 l0_3.length c0_3, .slice A0_4 l0_4.length c0_4, .slice A0_5 l0_5.length c0_5]] (by rfl) rfl rfl (by (try simp only [List.map_toArray, List.map_cons, List.map_nil]); first | done | rfl | (simp only [List.length_drop, List.length_take]; rfl)) ?_
       with_reducible refine (laws_toModel.calls kj15 a0_0 a0_1 a0_2 _ _ l0_3 _ _ l0_4 _ _ l0_5 t320 t321 t322 t323 t326 t329 _ ?side1 ?side2 ?side3 ?side4 ?side5 ?side6 A74.out).mono ?_
       (case side1 => exact Kd.C_w HR0_3 HB)
       (case side2 => exact HC0_3.out)
       (case side3 => exact Kd.C_w HR0_4 HB)
       (case side4 => exact HC0_4.out)
       (case side5 => exact Kd.C_w HR0_5 HB)
       (case side6 => exact HC0_5.out)
       rintro e w194 ⟨v324, v327, v330, rfl, ho0, ho1, ho2, hb⟩
       refine ⟨_, rfl, ?_⟩
       have n0_ := Aside0.mk (Kd.R_mono (Kd.R_told (Kd.R_told (Kd.R_told (Kd.R_old (Kd.R_p HO_9) hb) (Kd.R_base ho0)) (Kd.R_base ho1)) (Kd.R_base ho2)) (fun _ h_ => h_.1))
       have n1_ := Aside0.mk (Kd.R_mono (Kd.R_told (Kd.R_told (Kd.R_told (Kd.R_old (Kd.R_p HO_289003) hb) (Kd.R_base ho0)) (Kd.R_base ho1)) (Kd.R_base ho2)) (fun _ h_ => h_.1))
       have n2_ := Aside0.mk (Kd.R_mono (Kd.R_told (Kd.R_told (Kd.R_told (Kd.R_old (Kd.R_p HO_289004) hb) (Kd.R_base ho0)) (Kd.R_base ho1)) (Kd.R_base ho2)) (fun _ h_ => h_.1))
       have n3_ := Aside0.mk (Kd.R_mono (Kd.R_told (Kd.R_told (Kd.R_told (Kd.R_old (Kd.R_p HO_289005) hb) (Kd.R_base ho0)) (Kd.R_base ho1)) (Kd.R_base ho2)) (fun _ h_ => h_.1))
       have n4_ := Aside0.mk (Kd.R_mono (Kd.R_told (Kd.R_told (Kd.R_told (Kd.R_old (Kd.R_p HO_302003) hb) (Kd.R_base ho0)) (Kd.R_base ho1)) (Kd.R_base ho2)) (fun _ h_ => h_.1))
       have n5_ := Aside0.mk (Kd.R_mono (Kd.R_told (Kd.R_told (Kd.R_told (Kd.R_old (Kd.R_p HO_302004) hb) (Kd.R_base ho0)) (Kd.R_base ho1)) (Kd.R_base ho2)) (fun _ h_ => h_.1))
       have n6_ := Aside0.mk (Kd.R_mono (Kd.R_told (Kd.R_told (Kd.R_told (Kd.R_old (Kd.R_p HO_302005) hb) (Kd.R_base ho0)) (Kd.R_base ho1)) (Kd.R_base ho2)) (fun _ h_ => h_.1))
       have n7_ := Aside0.mk (Kd.R_mono (Kd.R_told (Kd.R_told (Kd.R_told (Kd.R_old (Kd.R_p HO_319003) hb) (Kd.R_base ho0)) (Kd.R_base ho1)) (Kd.R_base ho2)) (fun _ h_ => h_.1))
       have n8_ := Aside0.mk (Kd.R_mono (Kd.R_told (Kd.R_told (Kd.R_told (Kd.R_old (Kd.R_p HO_319004) hb) (Kd.R_base ho0)) (Kd.R_base ho1)) (Kd.R_base ho2)) (fun _ h_ => h_.1))
       have n9_ := Aside0.mk (Kd.R_mono (Kd.R_told (Kd.R_told (Kd.R_told (Kd.R_old (Kd.R_p HO_319005) hb) (Kd.R_base ho0)) (Kd.R_base ho1)) (Kd.R_base ho2)) (fun _ h_ => h_.1))
       have n10_ := Aside0.mk (Kd.R_lower (Kd.R_new' (Kd.R_new' (Kd.R_new' (Kd.R_new' (Kd.R_new' (Kd.R_new' (Kd.R_new' (Kd.R_new' (Kd.R_new' (Kd.R_new' ho0 (Kd.R_lt (Kd.R_p HO_9))) (Kd.R_lt (Kd.R_p HO_289003))) (Kd.R_lt (Kd.R_p HO_289004))) (Kd.R_lt (Kd.R_p HO_289005))) (Kd.R_lt (Kd.R_p HO_302003))) (Kd.R_lt (Kd.R_p HO_302004))) (Kd.R_lt (Kd.R_p HO_302005))) (Kd.R_lt (Kd.R_p HO_319003))) (Kd.R_lt (Kd.R_p HO_319004))) (Kd.R_lt (Kd.R_p HO_319005))) (below_size (hb_ HB)))
       have n11_ := Aside0.mk (Kd.R_lower (Kd.R_new' (Kd.R_new' (Kd.R_new' (Kd.R_new' (Kd.R_new' (Kd.R_new' (Kd.R_new' (Kd.R_new' (Kd.R_new' (Kd.R_new' ho1 (Kd.R_lt (Kd.R_p HO_9))) (Kd.R_lt (Kd.R_p HO_289003))) (Kd.R_lt (Kd.R_p HO_289004))) (Kd.R_lt (Kd.R_p HO_289005))) (Kd.R_lt (Kd.R_p HO_302003))) (Kd.R_lt (Kd.R_p HO_302004))) (Kd.R_lt (Kd.R_p HO_302005))) (Kd.R_lt (Kd.R_p HO_319003))) (Kd.R_lt (Kd.R_p HO_319004))) (Kd.R_lt (Kd.R_p HO_319005))) (below_size (hb_ HB)))
       have n12_ := Aside0.mk (Kd.R_lower (Kd.R_new' (Kd.R_new' (Kd.R_new' (Kd.R_new' (Kd.R_new' (Kd.R_new' (Kd.R_new' (Kd.R_new' (Kd.R_new' (Kd.R_new' ho2 (Kd.R_lt (Kd.R_p HO_9))) (Kd.R_lt (Kd.R_p HO_289003))) (Kd.R_lt (Kd.R_p HO_289004))) (Kd.R_lt (Kd.R_p HO_289005))) (Kd.R_lt (Kd.R_p HO_302003))) (Kd.R_lt (Kd.R_p HO_302004))) (Kd.R_lt (Kd.R_p HO_302005))) (Kd.R_lt (Kd.R_p HO_319003))) (Kd.R_lt (Kd.R_p HO_319004))) (Kd.R_lt (Kd.R_p HO_319005))) (below_size (hb_ HB)))
       have n13_ := Aside0.mk (blk_below (kp_ BK258) hb)
       have n14_ := Aside0.mk (blk_below (kp_ BK301) hb)
       have n15_ := Aside0.mk (below_step (hb_ HB) hb)
       clear HO_9
       clear HO_289003
       clear HO_289004
       clear HO_289005
       clear HO_302003
       clear HO_302004
       clear HO_302005
       clear HO_319003
       clear HO_319004
       clear HO_319005
       clear BK258
       clear BK301
       clear HB
       have HO_9 := n0_
       have HO_289003 := n1_
       have HO_289004 := n2_
       have HO_289005 := n3_
       have HO_302003 := n4_
       have HO_302004 := n5_
       have HO_302005 := n6_
       have HO_319003 := n7_
       have HO_319004 := n8_
       have HO_319005 := n9_
       have HO325 := n10_
       have HO328 := n11_
       have HO331 := n12_
       have BK258 := n13_
       have BK301 := n14_
       have HB := n15_
       clear n0_ n1_ n2_ n3_ n4_ n5_ n6_ n7_ n8_ n9_ n10_ n11_ n12_ n13_ n14_ n15_
       (try clear hb)
       (try clear hb2)
       (try clear hk)
       (try clear hi)
       (try clear ho0)
       (try clear ho1)
       (try clear ho2)
       obtain ⟨Ao195, co195, eo195⟩ := Kd.R_slice HO325.out
       (first | subst eo195 | (injection eo195 with f1_ f2_ f3_; have f4_ := f1_.symm; have f5_ := f3_.symm; clear f1_ f2_ f3_; subst f4_; subst f5_))
       obtain ⟨Ao196, co196, eo196⟩ := Kd.R_slice HO328.out
       (first | subst eo196 | (injection eo196 with f1_ f2_ f3_; have f4_ := f1_.symm; have f5_ := f3_.symm; clear f1_ f2_ f3_; subst f4_; subst f5_))
       obtain ⟨Ao197, co197, eo197⟩ := Kd.R_slice HO331.out
       (first | subst eo197 | (injection eo197 with f1_ f2_ f3_; have f4_ := f1_.symm; have f5_ := f3_.symm; clear f1_ f2_ f3_; subst f4_; subst f5_))
       refine hK.out _ _ ⟨(blk_cell BK301.out 0).trans rfl, (blk_cell BK301.out 1).trans rfl, (blk_cell BK301.out 2).trans rfl, (blk_cell BK301.out 3).trans rfl, (blk_cell BK301.out 4).trans rfl, (blk_cell BK301.out 5).trans rfl, (blk_cell BK258.out 0).trans rfl, (blk_cell BK258.out 1).trans rfl, (blk_cell BK258.out 2).trans rfl, (blk_cell BK258.out 3).trans rfl, (blk_cell BK258.out 4).trans rfl, (blk_cell BK258.out 5).trans rfl⟩ (fun hHeld => ?_)
       clear hK K
       refine norm_ (a' := ?_) ?_ ?_
       rotate_left
       ·show Act.put _ (some 54) _ = _
        simp only [Act.put, List.setIfInBounds_toArray, List.set_cons_zero, List.set_cons_succ, i64_w, i32_w]
        rfl
       refine one_ (i := 3) (N := some 55) #[true, true, true, true, false] rfl rfl (by kernel_rfl) (by decide) (fun K hK => ?_)
       refine goes_ Try.func11 (by kernel_rfl) rfl #[.agg #[.int .i64 t289, .int .i64 t290, .int .i64 t291, .slice Ao40 t292.length co40, .slice Ao41 t295.length co41, .slice Ao42 t298.length co42], .agg #[.int .i64 t320, .int .i64 t321, .int .i64 t322, .slice Ao195 t323.length co195, .slice Ao196 t326.length co196, .slice Ao197 t329.length co197]] (by rfl) rfl rfl (by (try simp only [List.map_toArray, List.map_cons, List.map_nil]); first | done | rfl | (simp only [List.length_drop, List.length_take]; rfl)) ?_
       with_reducible refine (laws_eqModel.calls kj15 t289 t290 t291 _ _ t292 _ _ t295 _ _ t298 t320 t321 t322 _ _ t323 _ _ t326 _ _ t329 false _ ?side1 ?side2 ?side3 ?side4 ?side5 ?side6 ?side7 ?side8 ?side9 ?side10 ?side11 ?side12 A75.out).mono ?_
       (case side1 => exact Kd.C_o HO_302003)
       (case side2 => exact (Kd.R_reads' HO_302003.out).2.1)
       (case side3 => exact Kd.C_o HO_302004)
       (case side4 => exact (Kd.R_reads' HO_302004.out).2.1)
       (case side5 => exact Kd.C_o HO_302005)
       (case side6 => exact (Kd.R_reads' HO_302005.out).2.1)
       (case side7 => exact Kd.C_o HO325)
       (case side8 => exact (Kd.R_reads' HO325.out).2.1)
       (case side9 => exact Kd.C_o HO328)
       (case side10 => exact (Kd.R_reads' HO328.out).2.1)
       (case side11 => exact Kd.C_o HO331)
       (case side12 => exact (Kd.R_reads' HO331.out).2.1)
       rintro e w198 ⟨rfl, hb⟩
       refine ⟨_, rfl, ?_⟩
       have n0_ := Aside0.mk (Kd.R_below (Kd.R_p HO_9) hb)
       have n1_ := Aside0.mk (Kd.R_below (Kd.R_p HO_289003) hb)
       have n2_ := Aside0.mk (Kd.R_below (Kd.R_p HO_289004) hb)
       have n3_ := Aside0.mk (Kd.R_below (Kd.R_p HO_289005) hb)
       have n4_ := Aside0.mk (Kd.R_below (Kd.R_p HO_302003) hb)
       have n5_ := Aside0.mk (Kd.R_below (Kd.R_p HO_302004) hb)
       have n6_ := Aside0.mk (Kd.R_below (Kd.R_p HO_302005) hb)
       have n7_ := Aside0.mk (Kd.R_below (Kd.R_p HO_319003) hb)
       have n8_ := Aside0.mk (Kd.R_below (Kd.R_p HO_319004) hb)
       have n9_ := Aside0.mk (Kd.R_below (Kd.R_p HO_319005) hb)
       have n10_ := Aside0.mk (Kd.R_below (Kd.R_p HO325) hb)
       have n11_ := Aside0.mk (Kd.R_below (Kd.R_p HO328) hb)
       have n12_ := Aside0.mk (Kd.R_below (Kd.R_p HO331) hb)
       have n13_ := Aside0.mk (blk_below (kp_ BK258) hb)
       have n14_ := Aside0.mk (blk_below (kp_ BK301) hb)
       have n15_ := Aside0.mk (below_step (hb_ HB) hb)
       clear HO_9
       clear HO_289003
       clear HO_289004
       clear HO_289005
       clear HO_302003
       clear HO_302004
       clear HO_302005
       clear HO_319003
       clear HO_319004
       clear HO_319005
       clear HO325
       clear HO328
       clear HO331
       clear BK258
       clear BK301
       clear HB
       have HO_9 := n0_
       have HO_289003 := n1_
       have HO_289004 := n2_
       have HO_289005 := n3_
       have HO_302003 := n4_
       have HO_302004 := n5_
       have HO_302005 := n6_
       have HO_319003 := n7_
       have HO_319004 := n8_
       have HO_319005 := n9_
       have HO325 := n10_
       have HO328 := n11_
       have HO331 := n12_
       have BK258 := n13_
       have BK301 := n14_
       have HB := n15_
       clear n0_ n1_ n2_ n3_ n4_ n5_ n6_ n7_ n8_ n9_ n10_ n11_ n12_ n13_ n14_ n15_
       (try clear hb)
       (try clear hb2)
       (try clear hk)
       (try clear hi)
       refine hK.out _ _ ⟨(blk_cell BK301.out 0).trans rfl, (blk_cell BK301.out 1).trans rfl, (blk_cell BK301.out 2).trans rfl, (blk_cell BK301.out 3).trans rfl, (blk_cell BK301.out 4).trans rfl, (blk_cell BK301.out 5).trans rfl, (blk_cell BK258.out 0).trans rfl, (blk_cell BK258.out 1).trans rfl, (blk_cell BK258.out 2).trans rfl, (blk_cell BK258.out 3).trans rfl, (blk_cell BK258.out 4).trans rfl, (blk_cell BK258.out 5).trans rfl⟩ (fun hHeld => ?_)
       clear hK K
       refine norm_ (a' := ?_) ?_ ?_
       rotate_left
       ·show Act.put _ (some 55) _ = _
        simp only [Act.put, List.setIfInBounds_toArray, List.set_cons_zero, List.set_cons_succ, i64_w, i32_w]
        rfl
       refine pure_ (i := 4) (N := some 56) (v := ?_) (a' := ?_) #[true, true, true, true, true] rfl rfl (by kernel_rfl) (fun _ _ _ h => h) (Or.inl ⟨by rfl, ?_⟩) ?_ ?_
       rotate_left
       ·intro w'
        go_simp
        with_reducible rfl
       rotate_left
       ·simp only [Act.put, List.setIfInBounds_toArray, List.set_cons_zero, List.set_cons_succ, i64_w, i32_w]
        rfl
       refine done_ (by kernel_rfl) ?_
       try go_wp2
       go_ret
       exact ⟨by first | rfl | (simp [errW_none, errW_some] <;> rfl) | (simp [*, errW_none, errW_some] <;> rfl), hb_ HB⟩

end Go.Proofs.Ytdfjlelbkkaloaa.PFnExactEmptyBlocks
