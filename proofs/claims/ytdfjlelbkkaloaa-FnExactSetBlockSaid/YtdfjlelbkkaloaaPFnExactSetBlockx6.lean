-- Laid for this claim by wip/tools/print2.sh, a changed copy of the kit's print (wip/tools/patch_print.py): not by print.sh.
import Derived.Test.YtdfjlelbkkaloaaPFnExactSetBlockx0
import Derived.Test.YtdfjlelbkkaloaaPFnExactSetBlockx1
import Derived.Test.YtdfjlelbkkaloaaPFnExactSetBlockx2
import Derived.Test.YtdfjlelbkkaloaaPFnExactSetBlockx4
import Derived.Test.YtdfjlelbkkaloaaPFnExactSetBlockx5
namespace Go.Proofs.Ytdfjlelbkkaloaa.PFnExactSetBlock
open Go.RowKit Go.Proofs.YtdfjlelbkkaloaaW.PrintWords Go.Proofs.YtdfjlelbkkaloaaW.PrintLast Go.Proofs.YtdfjlelbkkaloaaW.PrintMore
attribute [local go_sem] max2_int min2_int max_two min_two max_three min_three max_four min_four   -- for this text's walks alone
set_option linter.unusedVariables false
set_option linter.unusedSimpArgs false

/-! ### laws_FnExactSetBlock: function 3 -/
mutual
def laws_FnExactSetBlock.j0 : Nat → Int → Int → Int → Int → Bool → Bool → Bool → Int → Int → Int → List Int → List Int → List Int → Int → Int → Int → List Int → List Int → List Int → Int → Int → Int → List Int → List Int → List Int → Int → Int → Int → List Int → List Int → List Int → Option (Bool)
 | 0, _, _, _, _, _, _, _, _, _, _, _, _, _, _, _, _, _, _, _, _, _, _, _, _, _, _, _, _, _, _, _ => none
 | k + 1, x1, x2, x3, x4, x13, x16, x56, x257000, x257001, x257002, x257003, x257004, x257005, x284000, x284001, x284002, x284003, x284004, x284005, x297000, x297001, x297002, x297003, x297004, x297005, x311000, x311001, x311002, x311003, x311004, x311005 => if x56 = true then (some false) else ((laws_toModel.f k x257000 x257001 x257002 x257003 x257004 x257005).bind fun bt312 => ((laws_eqModel.f k x297000 x297001 x297002 x297003 x297004 x297005 bt312.1 bt312.2.1 bt312.2.2.1 bt312.2.2.2.1 bt312.2.2.2.2.1 bt312.2.2.2.2.2).bind fun t324 => (if t324 = true then ((laws_markModel.f k x297000 x297001 x297002 x297003 x297004 x297005 1).bind fun bt325 => (if bt325.1 < 0 then (laws_FnExactSetBlock.j1 k x1 x2 x3 x4 x13 true x257000 x257001 x257002 x257003 x257004 x257005 x284000 x284001 x284002 x284003 x284004 x284005 x311000 x311001 x311002 x311003 x311004 x311005) else ((laws_eqModel.f k x311000 x311001 x311002 x311003 x311004 x311005 x284000 x284001 x284002 x284003 x284004 x284005).bind fun t329 => (if t329 = true then (laws_FnExactSetBlock.j1 k x1 x2 x3 x4 x13 (x16 != x13) x257000 x257001 x257002 x257003 x257004 x257005 x284000 x284001 x284002 x284003 x284004 x284005 x311000 x311001 x311002 x311003 x311004 x311005) else (laws_FnExactSetBlock.j1 k x1 x2 x3 x4 x13 true x257000 x257001 x257002 x257003 x257004 x257005 x284000 x284001 x284002 x284003 x284004 x284005 x311000 x311001 x311002 x311003 x311004 x311005))))) else (some false))))
def laws_FnExactSetBlock.j1 : Nat → Int → Int → Int → Int → Bool → Bool → Int → Int → Int → List Int → List Int → List Int → Int → Int → Int → List Int → List Int → List Int → Int → Int → Int → List Int → List Int → List Int → Option (Bool)
 | 0, _, _, _, _, _, _, _, _, _, _, _, _, _, _, _, _, _, _, _, _, _, _, _, _ => none
 | k + 1, x1, x2, x3, x4, x13, x77, x257000, x257001, x257002, x257003, x257004, x257005, x284000, x284001, x284002, x284003, x284004, x284005, x311000, x311001, x311002, x311003, x311004, x311005 => if x77 = true then (some false) else ((laws_markModel.f k x311000 x311001 x311002 x311003 x311004 x311005 1).bind fun bt330 => ((laws_heldModel.f k x311000 x311001 x311002 bt330.2.1 bt330.2.2.1 bt330.2.2.2 1).bind fun t334 => (if t334 < 0 then (some false) else (if t334 = bt330.1 then ((laws_toModel.f k x257000 x257001 x257002 x257003 x257004 x257005).bind fun bt335 => ((impl_SetBlock.f k bt335.1 bt335.2.1 bt335.2.2.1 bt335.2.2.2.1 bt335.2.2.2.2.1 bt335.2.2.2.2.2 x1 x2 x3 x4).bind fun bt347 => ((laws_eqModel.f k bt347.1 bt347.2.1 bt347.2.2.1 bt347.2.2.2.1 bt347.2.2.2.2.1 bt347.2.2.2.2.2.1 x284000 x284001 x284002 x284003 x284004 x284005).bind fun t361 => (if t361 = true then (laws_FnExactSetBlock.j2 k bt330.1 (bt347.2.2.2.2.2.2 != x13) x311000 x311001 x311002 bt330.2.1 bt330.2.2.1 bt330.2.2.2) else (laws_FnExactSetBlock.j2 k bt330.1 true x311000 x311001 x311002 bt330.2.1 bt330.2.2.1 bt330.2.2.2))))) else (some false)))))
def laws_FnExactSetBlock.j2 : Nat → Int → Bool → Int → Int → Int → List Int → List Int → List Int → Option (Bool)
 | 0, _, _, _, _, _, _, _, _ => none
 | k + 1, x18, x107, x311000, x311001, x311002, x311003, x311004, x311005 => if x107 = true then (some false) else ((laws_heldModel.f k x311000 x311001 x311002 x311003 x311004 x311005 1).bind fun t362 => (if t362 < 0 then (some false) else (if t362 = x18 then (some true) else (some false))))
end
def laws_FnExactSetBlock.f (k : Nat) (a0_0 : Int) (a0_1 : Int) (a0_2 : Int) (l0_3 : List Int) (l0_4 : List Int) (l0_5 : List Int) (a1 : Int) (a2 : Int) (a3 : Int) (a4 : Int) : Option (Bool) := (laws_szModel.f a0_0 a0_1 a0_2 l0_3 l0_4 l0_5 1048576).bind fun t257 => (if t257 < 0 then (some true) else ((laws_toModel.f k a0_0 a0_1 a0_2 l0_3 l0_4 l0_5).bind fun bt258 => ((spec_SetBlock.f k bt258.1 bt258.2.1 bt258.2.2.1 bt258.2.2.2.1 bt258.2.2.2.2.1 bt258.2.2.2.2.2 a1 a2 a3 a4).bind fun bt270 => ((laws_toModel.f k a0_0 a0_1 a0_2 l0_3 l0_4 l0_5).bind fun bt284 => ((impl_SetBlock.f k bt284.1 bt284.2.1 bt284.2.2.1 bt284.2.2.2.1 bt284.2.2.2.2.1 bt284.2.2.2.2.2 a1 a2 a3 a4).bind fun bt297 => ((laws_eqModel.f k bt297.1 bt297.2.1 bt297.2.2.1 bt297.2.2.2.1 bt297.2.2.2.2.1 bt297.2.2.2.2.2.1 bt270.1 bt270.2.1 bt270.2.2.1 bt270.2.2.2.1 bt270.2.2.2.2.1 bt270.2.2.2.2.2.1).bind fun t311 => (if t311 = true then (laws_FnExactSetBlock.j0 k a1 a2 a3 a4 bt270.2.2.2.2.2.2 bt297.2.2.2.2.2.2 (bt297.2.2.2.2.2.2 != bt270.2.2.2.2.2.2) a0_0 a0_1 a0_2 l0_3 l0_4 l0_5 bt270.1 bt270.2.1 bt270.2.2.1 bt270.2.2.2.1 bt270.2.2.2.2.1 bt270.2.2.2.2.2.1 bt284.1 bt284.2.1 bt284.2.2.1 bt284.2.2.2.1 bt284.2.2.2.2.1 bt284.2.2.2.2.2 bt297.1 bt297.2.1 bt297.2.2.1 bt297.2.2.2.1 bt297.2.2.2.2.1 bt297.2.2.2.2.2.1) else (laws_FnExactSetBlock.j0 k a1 a2 a3 a4 bt270.2.2.2.2.2.2 bt297.2.2.2.2.2.2 true a0_0 a0_1 a0_2 l0_3 l0_4 l0_5 bt270.1 bt270.2.1 bt270.2.2.1 bt270.2.2.2.1 bt270.2.2.2.2.1 bt270.2.2.2.2.2.1 bt284.1 bt284.2.1 bt284.2.2.1 bt284.2.2.2.1 bt284.2.2.2.2.1 bt284.2.2.2.2.2 bt297.1 bt297.2.1 bt297.2.2.1 bt297.2.2.2.1 bt297.2.2.2.2.1 bt297.2.2.2.2.2.1))))))))
theorem laws_FnExactSetBlock.mono_l : ∀ k, (∀ y0 y1 y2 y3 y4 y5 y6 y7 y8 y9 y10 y11 y12 y13 y14 y15 y16 y17 y18 y19 y20 y21 y22 y23 y24 y25 y26 y27 y28 y29 y30, LeO (laws_FnExactSetBlock.j0 k y0 y1 y2 y3 y4 y5 y6 y7 y8 y9 y10 y11 y12 y13 y14 y15 y16 y17 y18 y19 y20 y21 y22 y23 y24 y25 y26 y27 y28 y29 y30) (laws_FnExactSetBlock.j0 (k + 1) y0 y1 y2 y3 y4 y5 y6 y7 y8 y9 y10 y11 y12 y13 y14 y15 y16 y17 y18 y19 y20 y21 y22 y23 y24 y25 y26 y27 y28 y29 y30)) ∧ (∀ y0 y1 y2 y3 y4 y5 y6 y7 y8 y9 y10 y11 y12 y13 y14 y15 y16 y17 y18 y19 y20 y21 y22 y23, LeO (laws_FnExactSetBlock.j1 k y0 y1 y2 y3 y4 y5 y6 y7 y8 y9 y10 y11 y12 y13 y14 y15 y16 y17 y18 y19 y20 y21 y22 y23) (laws_FnExactSetBlock.j1 (k + 1) y0 y1 y2 y3 y4 y5 y6 y7 y8 y9 y10 y11 y12 y13 y14 y15 y16 y17 y18 y19 y20 y21 y22 y23)) ∧ (∀ y0 y1 y2 y3 y4 y5 y6 y7, LeO (laws_FnExactSetBlock.j2 k y0 y1 y2 y3 y4 y5 y6 y7) (laws_FnExactSetBlock.j2 (k + 1) y0 y1 y2 y3 y4 y5 y6 y7))
 | 0 => ⟨fun _ _ _ _ _ _ _ _ _ _ _ _ _ _ _ _ _ _ _ _ _ _ _ _ _ _ _ _ _ _ _ r h => by simp [laws_FnExactSetBlock.j0] at h, fun _ _ _ _ _ _ _ _ _ _ _ _ _ _ _ _ _ _ _ _ _ _ _ _ r h => by simp [laws_FnExactSetBlock.j1] at h, fun _ _ _ _ _ _ _ _ r h => by simp [laws_FnExactSetBlock.j2] at h⟩
 | k + 1 => by
  obtain ⟨ih0, ih1, ih2⟩ := laws_FnExactSetBlock.mono_l k
  refine ⟨?_, ?_, ?_⟩
  ·intro y0 y1 y2 y3 y4 y5 y6 y7 y8 y9 y10 y11 y12 y13 y14 y15 y16 y17 y18 y19 y20 y21 y22 y23 y24 y25 y26 y27 y28 y29 y30
   unfold laws_FnExactSetBlock.j0
   repeat' first
   | (with_reducible exact ih0 _ _ _ _ _ _ _ _ _ _ _ _ _ _ _ _ _ _ _ _ _ _ _ _ _ _ _ _ _ _ _)
   | (with_reducible exact ih1 _ _ _ _ _ _ _ _ _ _ _ _ _ _ _ _ _ _ _ _ _ _ _ _)
   | (with_reducible exact ih2 _ _ _ _ _ _ _ _)
   | (with_reducible exact impl_SetBlock.mono _ _ _ _ _ _ _ _ _ _ _)
   | (with_reducible exact laws_eqModel.mono _ _ _ _ _ _ _ _ _ _ _ _ _)
   | (with_reducible exact laws_heldModel.mono _ _ _ _ _ _ _ _)
   | (with_reducible exact laws_markModel.mono _ _ _ _ _ _ _ _)
   | (with_reducible exact laws_toModel.mono _ _ _ _ _ _ _)
   | (with_reducible exact spec_SetBlock.mono _ _ _ _ _ _ _ _ _ _ _)
   | (with_reducible exact LeO.refl _)
   | (with_reducible exact LeO.none _)
   | (with_reducible refine LeO.ite ?_ ?_)
   | (with_reducible refine LeO.bind ?_ (fun _ => ?_))
   | exact ih0 _ _ _ _ _ _ _ _ _ _ _ _ _ _ _ _ _ _ _ _ _ _ _ _ _ _ _ _ _ _ _
   | exact ih1 _ _ _ _ _ _ _ _ _ _ _ _ _ _ _ _ _ _ _ _ _ _ _ _
   | exact ih2 _ _ _ _ _ _ _ _
   | exact impl_SetBlock.mono _ _ _ _ _ _ _ _ _ _ _
   | exact laws_eqModel.mono _ _ _ _ _ _ _ _ _ _ _ _ _
   | exact laws_heldModel.mono _ _ _ _ _ _ _ _
   | exact laws_markModel.mono _ _ _ _ _ _ _ _
   | exact laws_toModel.mono _ _ _ _ _ _ _
   | exact spec_SetBlock.mono _ _ _ _ _ _ _ _ _ _ _
   | exact LeO.none _
   | refine LeO.ite ?_ ?_
   | refine LeO.bind ?_ (fun _ => ?_)
  ·intro y0 y1 y2 y3 y4 y5 y6 y7 y8 y9 y10 y11 y12 y13 y14 y15 y16 y17 y18 y19 y20 y21 y22 y23
   unfold laws_FnExactSetBlock.j1
   repeat' first
   | (with_reducible exact ih0 _ _ _ _ _ _ _ _ _ _ _ _ _ _ _ _ _ _ _ _ _ _ _ _ _ _ _ _ _ _ _)
   | (with_reducible exact ih1 _ _ _ _ _ _ _ _ _ _ _ _ _ _ _ _ _ _ _ _ _ _ _ _)
   | (with_reducible exact ih2 _ _ _ _ _ _ _ _)
   | (with_reducible exact impl_SetBlock.mono _ _ _ _ _ _ _ _ _ _ _)
   | (with_reducible exact laws_eqModel.mono _ _ _ _ _ _ _ _ _ _ _ _ _)
   | (with_reducible exact laws_heldModel.mono _ _ _ _ _ _ _ _)
   | (with_reducible exact laws_markModel.mono _ _ _ _ _ _ _ _)
   | (with_reducible exact laws_toModel.mono _ _ _ _ _ _ _)
   | (with_reducible exact spec_SetBlock.mono _ _ _ _ _ _ _ _ _ _ _)
   | (with_reducible exact LeO.refl _)
   | (with_reducible exact LeO.none _)
   | (with_reducible refine LeO.ite ?_ ?_)
   | (with_reducible refine LeO.bind ?_ (fun _ => ?_))
   | exact ih0 _ _ _ _ _ _ _ _ _ _ _ _ _ _ _ _ _ _ _ _ _ _ _ _ _ _ _ _ _ _ _
   | exact ih1 _ _ _ _ _ _ _ _ _ _ _ _ _ _ _ _ _ _ _ _ _ _ _ _
   | exact ih2 _ _ _ _ _ _ _ _
   | exact impl_SetBlock.mono _ _ _ _ _ _ _ _ _ _ _
   | exact laws_eqModel.mono _ _ _ _ _ _ _ _ _ _ _ _ _
   | exact laws_heldModel.mono _ _ _ _ _ _ _ _
   | exact laws_markModel.mono _ _ _ _ _ _ _ _
   | exact laws_toModel.mono _ _ _ _ _ _ _
   | exact spec_SetBlock.mono _ _ _ _ _ _ _ _ _ _ _
   | exact LeO.none _
   | refine LeO.ite ?_ ?_
   | refine LeO.bind ?_ (fun _ => ?_)
  ·intro y0 y1 y2 y3 y4 y5 y6 y7
   unfold laws_FnExactSetBlock.j2
   repeat' first
   | (with_reducible exact ih0 _ _ _ _ _ _ _ _ _ _ _ _ _ _ _ _ _ _ _ _ _ _ _ _ _ _ _ _ _ _ _)
   | (with_reducible exact ih1 _ _ _ _ _ _ _ _ _ _ _ _ _ _ _ _ _ _ _ _ _ _ _ _)
   | (with_reducible exact ih2 _ _ _ _ _ _ _ _)
   | (with_reducible exact impl_SetBlock.mono _ _ _ _ _ _ _ _ _ _ _)
   | (with_reducible exact laws_eqModel.mono _ _ _ _ _ _ _ _ _ _ _ _ _)
   | (with_reducible exact laws_heldModel.mono _ _ _ _ _ _ _ _)
   | (with_reducible exact laws_markModel.mono _ _ _ _ _ _ _ _)
   | (with_reducible exact laws_toModel.mono _ _ _ _ _ _ _)
   | (with_reducible exact spec_SetBlock.mono _ _ _ _ _ _ _ _ _ _ _)
   | (with_reducible exact LeO.refl _)
   | (with_reducible exact LeO.none _)
   | (with_reducible refine LeO.ite ?_ ?_)
   | (with_reducible refine LeO.bind ?_ (fun _ => ?_))
   | exact ih0 _ _ _ _ _ _ _ _ _ _ _ _ _ _ _ _ _ _ _ _ _ _ _ _ _ _ _ _ _ _ _
   | exact ih1 _ _ _ _ _ _ _ _ _ _ _ _ _ _ _ _ _ _ _ _ _ _ _ _
   | exact ih2 _ _ _ _ _ _ _ _
   | exact impl_SetBlock.mono _ _ _ _ _ _ _ _ _ _ _
   | exact laws_eqModel.mono _ _ _ _ _ _ _ _ _ _ _ _ _
   | exact laws_heldModel.mono _ _ _ _ _ _ _ _
   | exact laws_markModel.mono _ _ _ _ _ _ _ _
   | exact laws_toModel.mono _ _ _ _ _ _ _
   | exact spec_SetBlock.mono _ _ _ _ _ _ _ _ _ _ _
   | exact LeO.none _
   | refine LeO.ite ?_ ?_
   | refine LeO.bind ?_ (fun _ => ?_)
theorem laws_FnExactSetBlock.mono : ∀ a0 a1 a2 a3 a4 a5 a6 a7 a8 a9 k, LeO (laws_FnExactSetBlock.f k a0 a1 a2 a3 a4 a5 a6 a7 a8 a9) (laws_FnExactSetBlock.f (k + 1) a0 a1 a2 a3 a4 a5 a6 a7 a8 a9) := by
 intro a0 a1 a2 a3 a4 a5 a6 a7 a8 a9 k
 obtain ⟨ih0, ih1, ih2⟩ := laws_FnExactSetBlock.mono_l k
 unfold laws_FnExactSetBlock.f
 repeat' first
   | (with_reducible exact ih0 _ _ _ _ _ _ _ _ _ _ _ _ _ _ _ _ _ _ _ _ _ _ _ _ _ _ _ _ _ _ _)
   | (with_reducible exact ih1 _ _ _ _ _ _ _ _ _ _ _ _ _ _ _ _ _ _ _ _ _ _ _ _)
   | (with_reducible exact ih2 _ _ _ _ _ _ _ _)
   | (with_reducible exact impl_SetBlock.mono _ _ _ _ _ _ _ _ _ _ _)
   | (with_reducible exact laws_eqModel.mono _ _ _ _ _ _ _ _ _ _ _ _ _)
   | (with_reducible exact laws_heldModel.mono _ _ _ _ _ _ _ _)
   | (with_reducible exact laws_markModel.mono _ _ _ _ _ _ _ _)
   | (with_reducible exact laws_toModel.mono _ _ _ _ _ _ _)
   | (with_reducible exact spec_SetBlock.mono _ _ _ _ _ _ _ _ _ _ _)
   | (with_reducible exact LeO.refl _)
   | (with_reducible exact LeO.none _)
   | (with_reducible refine LeO.ite ?_ ?_)
   | (with_reducible refine LeO.bind ?_ (fun _ => ?_))
   | exact ih0 _ _ _ _ _ _ _ _ _ _ _ _ _ _ _ _ _ _ _ _ _ _ _ _ _ _ _ _ _ _ _
   | exact ih1 _ _ _ _ _ _ _ _ _ _ _ _ _ _ _ _ _ _ _ _ _ _ _ _
   | exact ih2 _ _ _ _ _ _ _ _
   | exact impl_SetBlock.mono _ _ _ _ _ _ _ _ _ _ _
   | exact laws_eqModel.mono _ _ _ _ _ _ _ _ _ _ _ _ _
   | exact laws_heldModel.mono _ _ _ _ _ _ _ _
   | exact laws_markModel.mono _ _ _ _ _ _ _ _
   | exact laws_toModel.mono _ _ _ _ _ _ _
   | exact spec_SetBlock.mono _ _ _ _ _ _ _ _ _ _ _
   | exact LeO.none _
   | refine LeO.ite ?_ ?_
   | refine LeO.bind ?_ (fun _ => ?_)
set_option maxHeartbeats 8000000 in
set_option maxRecDepth 100000 in
theorem laws_FnExactSetBlock.calls (k : Nat) (a0_0 : Int) (a0_1 : Int) (a0_2 : Int) (A0_3 : Option Addr) (c0_3 : Nat) (l0_3 : List Int) (A0_4 : Option Addr) (c0_4 : Nat) (l0_4 : List Int) (A0_5 : Option Addr) (c0_5 : Nat) (l0_5 : List Int) (a1 : Int) (a2 : Int) (a3 : Int) (a4 : Int) (r : Bool) (w : World) (hr0_3 : Kd.C (Kd.int .i64) w A0_3 l0_3.length l0_3) (hc0_3 : l0_3.length ≤ c0_3) (hr0_4 : Kd.C (Kd.int .i64) w A0_4 l0_4.length l0_4) (hc0_4 : l0_4.length ≤ c0_4) (hr0_5 : Kd.C (Kd.int .i64) w A0_5 l0_5.length l0_5) (hc0_5 : l0_5.length ≤ c0_5) (h : laws_FnExactSetBlock.f k a0_0 a0_1 a0_2 l0_3 l0_4 l0_5 a1 a2 a3 a4 = some r) :
  Calls Try.prog 3 #[.agg #[.int .i64 a0_0, .int .i64 a0_1, .int .i64 a0_2, .slice A0_3 l0_3.length c0_3, .slice A0_4 l0_4.length c0_4, .slice A0_5 l0_5.length c0_5], .int .i64 a1, .int .i64 a2, .int .i64 a3, .int .i64 a4] w fun e w' => e = .returned (.bool r) ∧ Below w.heap.size w w' := by
 have hu26 := Try.underlying26
 have hu30 := Try.underlying30
 have HR0_3 := Aside0.mk hr0_3
 have HC0_3 := Aside0.mk hc0_3
 clear hr0_3 hc0_3
 have HR0_4 := Aside0.mk hr0_4
 have HC0_4 := Aside0.mk hc0_4
 clear hr0_4 hc0_4
 have HR0_5 := Aside0.mk hr0_5
 have HC0_5 := Aside0.mk hc0_5
 clear hr0_5 hc0_5
 have HB := Aside0.mk (Below.refl w.heap.size w)
 have H : ((laws_szModel.f a0_0 a0_1 a0_2 l0_3 l0_4 l0_5 1048576).bind fun t257 => (if t257 < 0 then (some true) else ((laws_toModel.f k a0_0 a0_1 a0_2 l0_3 l0_4 l0_5).bind fun bt258 => ((spec_SetBlock.f k bt258.1 bt258.2.1 bt258.2.2.1 bt258.2.2.2.1 bt258.2.2.2.2.1 bt258.2.2.2.2.2 a1 a2 a3 a4).bind fun bt270 => ((laws_toModel.f k a0_0 a0_1 a0_2 l0_3 l0_4 l0_5).bind fun bt284 => ((impl_SetBlock.f k bt284.1 bt284.2.1 bt284.2.2.1 bt284.2.2.2.1 bt284.2.2.2.2.1 bt284.2.2.2.2.2 a1 a2 a3 a4).bind fun bt297 => ((laws_eqModel.f k bt297.1 bt297.2.1 bt297.2.2.1 bt297.2.2.2.1 bt297.2.2.2.2.1 bt297.2.2.2.2.2.1 bt270.1 bt270.2.1 bt270.2.2.1 bt270.2.2.2.1 bt270.2.2.2.2.1 bt270.2.2.2.2.2.1).bind fun t311 => (if t311 = true then (laws_FnExactSetBlock.j0 k a1 a2 a3 a4 bt270.2.2.2.2.2.2 bt297.2.2.2.2.2.2 (bt297.2.2.2.2.2.2 != bt270.2.2.2.2.2.2) a0_0 a0_1 a0_2 l0_3 l0_4 l0_5 bt270.1 bt270.2.1 bt270.2.2.1 bt270.2.2.2.1 bt270.2.2.2.2.1 bt270.2.2.2.2.2.1 bt284.1 bt284.2.1 bt284.2.2.1 bt284.2.2.2.1 bt284.2.2.2.2.1 bt284.2.2.2.2.2 bt297.1 bt297.2.1 bt297.2.2.1 bt297.2.2.2.1 bt297.2.2.2.2.1 bt297.2.2.2.2.2.1) else (laws_FnExactSetBlock.j0 k a1 a2 a3 a4 bt270.2.2.2.2.2.2 bt297.2.2.2.2.2.2 true a0_0 a0_1 a0_2 l0_3 l0_4 l0_5 bt270.1 bt270.2.1 bt270.2.2.1 bt270.2.2.2.1 bt270.2.2.2.2.1 bt270.2.2.2.2.2.1 bt284.1 bt284.2.1 bt284.2.2.1 bt284.2.2.2.1 bt284.2.2.2.2.1 bt284.2.2.2.2.2 bt297.1 bt297.2.1 bt297.2.2.1 bt297.2.2.2.1 bt297.2.2.2.2.1 bt297.2.2.2.2.2.1))))))))) = some r := h
 clear h
 replace H := Option.bind_eq_some_iff.mp H
 obtain ⟨t257, A60, H⟩ := H
 replace H : (if t257 < 0 then (some true) else ((laws_toModel.f k a0_0 a0_1 a0_2 l0_3 l0_4 l0_5).bind fun bt258 => ((spec_SetBlock.f k bt258.1 bt258.2.1 bt258.2.2.1 bt258.2.2.2.1 bt258.2.2.2.2.1 bt258.2.2.2.2.2 a1 a2 a3 a4).bind fun bt270 => ((laws_toModel.f k a0_0 a0_1 a0_2 l0_3 l0_4 l0_5).bind fun bt284 => ((impl_SetBlock.f k bt284.1 bt284.2.1 bt284.2.2.1 bt284.2.2.2.1 bt284.2.2.2.2.1 bt284.2.2.2.2.2 a1 a2 a3 a4).bind fun bt297 => ((laws_eqModel.f k bt297.1 bt297.2.1 bt297.2.2.1 bt297.2.2.2.1 bt297.2.2.2.2.1 bt297.2.2.2.2.2.1 bt270.1 bt270.2.1 bt270.2.2.1 bt270.2.2.2.1 bt270.2.2.2.2.1 bt270.2.2.2.2.2.1).bind fun t311 => (if t311 = true then (laws_FnExactSetBlock.j0 k a1 a2 a3 a4 bt270.2.2.2.2.2.2 bt297.2.2.2.2.2.2 (bt297.2.2.2.2.2.2 != bt270.2.2.2.2.2.2) a0_0 a0_1 a0_2 l0_3 l0_4 l0_5 bt270.1 bt270.2.1 bt270.2.2.1 bt270.2.2.2.1 bt270.2.2.2.2.1 bt270.2.2.2.2.2.1 bt284.1 bt284.2.1 bt284.2.2.1 bt284.2.2.2.1 bt284.2.2.2.2.1 bt284.2.2.2.2.2 bt297.1 bt297.2.1 bt297.2.2.1 bt297.2.2.2.1 bt297.2.2.2.2.1 bt297.2.2.2.2.2.1) else (laws_FnExactSetBlock.j0 k a1 a2 a3 a4 bt270.2.2.2.2.2.2 bt297.2.2.2.2.2.2 true a0_0 a0_1 a0_2 l0_3 l0_4 l0_5 bt270.1 bt270.2.1 bt270.2.2.1 bt270.2.2.2.1 bt270.2.2.2.2.1 bt270.2.2.2.2.2.1 bt284.1 bt284.2.1 bt284.2.2.1 bt284.2.2.2.1 bt284.2.2.2.2.1 bt284.2.2.2.2.2 bt297.1 bt297.2.1 bt297.2.2.1 bt297.2.2.2.1 bt297.2.2.2.2.1 bt297.2.2.2.2.2.1)))))))) = some r := H
 have A6 := Aside0.mk A60
 clear A60
 by_cases c7 : t257 < 0
 ·rw [if_pos c7] at H
  have c7b0 : decide (t257 < 0) = true := decide_eq_true c7
  clear c7
  obtain rfl := Option.some.inj H
  go_enter Try.func3, Try.ntmps3
  go_wp2_with (first | ((with_reducible refine gate_dst (N := 5) rfl ?_); refine box_event ?hg (N := 5) ?hd (cs := #[.int .i64 a0_0, .int .i64 a0_1, .int .i64 a0_2, .slice A0_3 l0_3.length c0_3, .slice A0_4 l0_4.length c0_4, .slice A0_5 l0_5.length c0_5]) (t := 26) ?hr ?_; (case hd => rfl); (case hg => rfl); (case hr => first | (go_simp; done) | (go_simp; rfl)); intro gb256 hg w8 hbox hb; have BK256 := Aside0.mk (hbox); have GW256 := gs_ hg HB; have GE256 := gs_ hg HB; replace HB := hbs_ HB hb; clear hb hbox hg; obtain ⟨hcz9_0, hcz9_1, hcz9_2, hcz9_3, hcz9_4, hcz9_5, hfz9_0, hfz9_1, hfz9_2, hfz9_3, hfz9_4, hfz9_5⟩ := bx6 BK256) | ((with_reducible refine gate_callee (f := 7) rfl ?_); refine gl_ (some 24) Try.func7 #[.agg #[.int .i64 a0_0, .int .i64 a0_1, .int .i64 a0_2, .slice A0_3 l0_3.length c0_3, .slice A0_4 l0_4.length c0_4, .slice A0_5 l0_5.length c0_5], .int .i64 1048576] rfl rfl rfl ?_; (with_reducible refine (laws_szModel.calls a0_0 a0_1 a0_2 _ _ l0_3 _ _ l0_4 _ _ l0_5 1048576 t257 _ ?side1 ?side2 ?side3 ?side4 ?side5 ?side6 A6.out).mono ?_); (case side1 => exact Kd.C_w HR0_3 HB); (case side2 => exact HC0_3.out); (case side3 => exact Kd.C_w HR0_4 HB); (case side4 => exact HC0_4.out); (case side5 => exact Kd.C_w HR0_5 HB); (case side6 => exact HC0_5.out); rintro e w10 ⟨rfl, hb⟩; refine ⟨_, rfl, ?_⟩; replace BK256 := kb_ BK256 hb; replace HB := hbs_ HB hb; (try clear hb); (try clear hb2); (try clear hk); (try clear hi)))
  go_ret
  exact ⟨by first | rfl | (simp [errW_none, errW_some] <;> rfl) | (simp [*, errW_none, errW_some] <;> rfl), hb_ HB⟩
 ·rw [if_neg c7] at H
  have c7b0 : decide (t257 < 0) = false := decide_eq_false c7
  clear c7
  replace H := Option.bind_eq_some_iff.mp H
  obtain ⟨⟨t258, t259, t260, t261, t264, t267⟩, A110, H⟩ := H
  replace H : ((spec_SetBlock.f k t258 t259 t260 t261 t264 t267 a1 a2 a3 a4).bind fun bt270 => ((laws_toModel.f k a0_0 a0_1 a0_2 l0_3 l0_4 l0_5).bind fun bt284 => ((impl_SetBlock.f k bt284.1 bt284.2.1 bt284.2.2.1 bt284.2.2.2.1 bt284.2.2.2.2.1 bt284.2.2.2.2.2 a1 a2 a3 a4).bind fun bt297 => ((laws_eqModel.f k bt297.1 bt297.2.1 bt297.2.2.1 bt297.2.2.2.1 bt297.2.2.2.2.1 bt297.2.2.2.2.2.1 bt270.1 bt270.2.1 bt270.2.2.1 bt270.2.2.2.1 bt270.2.2.2.2.1 bt270.2.2.2.2.2.1).bind fun t311 => (if t311 = true then (laws_FnExactSetBlock.j0 k a1 a2 a3 a4 bt270.2.2.2.2.2.2 bt297.2.2.2.2.2.2 (bt297.2.2.2.2.2.2 != bt270.2.2.2.2.2.2) a0_0 a0_1 a0_2 l0_3 l0_4 l0_5 bt270.1 bt270.2.1 bt270.2.2.1 bt270.2.2.2.1 bt270.2.2.2.2.1 bt270.2.2.2.2.2.1 bt284.1 bt284.2.1 bt284.2.2.1 bt284.2.2.2.1 bt284.2.2.2.2.1 bt284.2.2.2.2.2 bt297.1 bt297.2.1 bt297.2.2.1 bt297.2.2.2.1 bt297.2.2.2.2.1 bt297.2.2.2.2.2.1) else (laws_FnExactSetBlock.j0 k a1 a2 a3 a4 bt270.2.2.2.2.2.2 bt297.2.2.2.2.2.2 true a0_0 a0_1 a0_2 l0_3 l0_4 l0_5 bt270.1 bt270.2.1 bt270.2.2.1 bt270.2.2.2.1 bt270.2.2.2.2.1 bt270.2.2.2.2.2.1 bt284.1 bt284.2.1 bt284.2.2.1 bt284.2.2.2.1 bt284.2.2.2.2.1 bt284.2.2.2.2.2 bt297.1 bt297.2.1 bt297.2.2.1 bt297.2.2.2.1 bt297.2.2.2.2.1 bt297.2.2.2.2.2.1)))))) = some r := H
  have A11 := Aside0.mk A110
  clear A110
  replace H := Option.bind_eq_some_iff.mp H
  obtain ⟨⟨t270, t271, t272, t273, t276, t279, t282⟩, A120, H⟩ := H
  replace H : ((laws_toModel.f k a0_0 a0_1 a0_2 l0_3 l0_4 l0_5).bind fun bt284 => ((impl_SetBlock.f k bt284.1 bt284.2.1 bt284.2.2.1 bt284.2.2.2.1 bt284.2.2.2.2.1 bt284.2.2.2.2.2 a1 a2 a3 a4).bind fun bt297 => ((laws_eqModel.f k bt297.1 bt297.2.1 bt297.2.2.1 bt297.2.2.2.1 bt297.2.2.2.2.1 bt297.2.2.2.2.2.1 t270 t271 t272 t273 t276 t279).bind fun t311 => (if t311 = true then (laws_FnExactSetBlock.j0 k a1 a2 a3 a4 t282 bt297.2.2.2.2.2.2 (bt297.2.2.2.2.2.2 != t282) a0_0 a0_1 a0_2 l0_3 l0_4 l0_5 t270 t271 t272 t273 t276 t279 bt284.1 bt284.2.1 bt284.2.2.1 bt284.2.2.2.1 bt284.2.2.2.2.1 bt284.2.2.2.2.2 bt297.1 bt297.2.1 bt297.2.2.1 bt297.2.2.2.1 bt297.2.2.2.2.1 bt297.2.2.2.2.2.1) else (laws_FnExactSetBlock.j0 k a1 a2 a3 a4 t282 bt297.2.2.2.2.2.2 true a0_0 a0_1 a0_2 l0_3 l0_4 l0_5 t270 t271 t272 t273 t276 t279 bt284.1 bt284.2.1 bt284.2.2.1 bt284.2.2.2.1 bt284.2.2.2.2.1 bt284.2.2.2.2.2 bt297.1 bt297.2.1 bt297.2.2.1 bt297.2.2.2.1 bt297.2.2.2.2.1 bt297.2.2.2.2.2.1))))) = some r := H
  have A12 := Aside0.mk A120
  clear A120
  replace H := Option.bind_eq_some_iff.mp H
  obtain ⟨⟨t284, t285, t286, t287, t290, t293⟩, A130, H⟩ := H
  replace H : ((impl_SetBlock.f k t284 t285 t286 t287 t290 t293 a1 a2 a3 a4).bind fun bt297 => ((laws_eqModel.f k bt297.1 bt297.2.1 bt297.2.2.1 bt297.2.2.2.1 bt297.2.2.2.2.1 bt297.2.2.2.2.2.1 t270 t271 t272 t273 t276 t279).bind fun t311 => (if t311 = true then (laws_FnExactSetBlock.j0 k a1 a2 a3 a4 t282 bt297.2.2.2.2.2.2 (bt297.2.2.2.2.2.2 != t282) a0_0 a0_1 a0_2 l0_3 l0_4 l0_5 t270 t271 t272 t273 t276 t279 t284 t285 t286 t287 t290 t293 bt297.1 bt297.2.1 bt297.2.2.1 bt297.2.2.2.1 bt297.2.2.2.2.1 bt297.2.2.2.2.2.1) else (laws_FnExactSetBlock.j0 k a1 a2 a3 a4 t282 bt297.2.2.2.2.2.2 true a0_0 a0_1 a0_2 l0_3 l0_4 l0_5 t270 t271 t272 t273 t276 t279 t284 t285 t286 t287 t290 t293 bt297.1 bt297.2.1 bt297.2.2.1 bt297.2.2.2.1 bt297.2.2.2.2.1 bt297.2.2.2.2.2.1)))) = some r := H
  have A13 := Aside0.mk A130
  clear A130
  replace H := Option.bind_eq_some_iff.mp H
  obtain ⟨⟨t297, t298, t299, t300, t303, t306, t309⟩, A140, H⟩ := H
  replace H : ((laws_eqModel.f k t297 t298 t299 t300 t303 t306 t270 t271 t272 t273 t276 t279).bind fun t311 => (if t311 = true then (laws_FnExactSetBlock.j0 k a1 a2 a3 a4 t282 t309 (t309 != t282) a0_0 a0_1 a0_2 l0_3 l0_4 l0_5 t270 t271 t272 t273 t276 t279 t284 t285 t286 t287 t290 t293 t297 t298 t299 t300 t303 t306) else (laws_FnExactSetBlock.j0 k a1 a2 a3 a4 t282 t309 true a0_0 a0_1 a0_2 l0_3 l0_4 l0_5 t270 t271 t272 t273 t276 t279 t284 t285 t286 t287 t290 t293 t297 t298 t299 t300 t303 t306))) = some r := H
  have A14 := Aside0.mk A140
  clear A140
  have HC15 := Aside0.mk H
  clear H
  go_enter Try.func3, Try.ntmps3
  go_upto_region 8 with (first | ((with_reducible refine gate_dst (N := 5) rfl ?_); refine box_event ?hg (N := 5) ?hd (cs := #[.int .i64 a0_0, .int .i64 a0_1, .int .i64 a0_2, .slice A0_3 l0_3.length c0_3, .slice A0_4 l0_4.length c0_4, .slice A0_5 l0_5.length c0_5]) (t := 26) ?hr ?_; (case hd => rfl); (case hg => rfl); (case hr => first | (go_simp; done) | (go_simp; rfl)); intro gb256 hg w16 hbox hb; have BK256 := Aside0.mk (hbox); have GW256 := gs_ hg HB; have GE256 := gs_ hg HB; replace HB := hbs_ HB hb; clear hb hbox hg; obtain ⟨hcz17_0, hcz17_1, hcz17_2, hcz17_3, hcz17_4, hcz17_5, hfz17_0, hfz17_1, hfz17_2, hfz17_3, hfz17_4, hfz17_5⟩ := bx6 BK256) | ((with_reducible refine gate_callee (f := 7) rfl ?_); refine gl_ (some 24) Try.func7 #[.agg #[.int .i64 a0_0, .int .i64 a0_1, .int .i64 a0_2, .slice A0_3 l0_3.length c0_3, .slice A0_4 l0_4.length c0_4, .slice A0_5 l0_5.length c0_5], .int .i64 1048576] rfl rfl rfl ?_; (with_reducible refine (laws_szModel.calls a0_0 a0_1 a0_2 _ _ l0_3 _ _ l0_4 _ _ l0_5 1048576 t257 _ ?side1 ?side2 ?side3 ?side4 ?side5 ?side6 A6.out).mono ?_); (case side1 => exact Kd.C_w HR0_3 HB); (case side2 => exact HC0_3.out); (case side3 => exact Kd.C_w HR0_4 HB); (case side4 => exact HC0_4.out); (case side5 => exact Kd.C_w HR0_5 HB); (case side6 => exact HC0_5.out); rintro e w18 ⟨rfl, hb⟩; refine ⟨_, rfl, ?_⟩; replace BK256 := kb_ BK256 hb; replace HB := hbs_ HB hb; (try clear hb); (try clear hb2); (try clear hk); (try clear hi); obtain ⟨hcz19_0, hcz19_1, hcz19_2, hcz19_3, hcz19_4, hcz19_5, hfz19_0, hfz19_1, hfz19_2, hfz19_3, hfz19_4, hfz19_5⟩ := bx6 BK256) | ((with_reducible refine gate_callee (f := 9) rfl ?_); refine gl_ (some 29) Try.func9 #[.agg #[.int .i64 a0_0, .int .i64 a0_1, .int .i64 a0_2, .slice A0_3 l0_3.length c0_3, .slice A0_4 l0_4.length c0_4, .slice A0_5 l0_5.length c0_5]] rfl rfl rfl ?_; (with_reducible refine (laws_toModel.calls k a0_0 a0_1 a0_2 _ _ l0_3 _ _ l0_4 _ _ l0_5 t258 t259 t260 t261 t264 t267 _ ?side1 ?side2 ?side3 ?side4 ?side5 ?side6 A11.out).mono ?_); (case side1 => exact Kd.C_w HR0_3 HB); (case side2 => exact HC0_3.out); (case side3 => exact Kd.C_w HR0_4 HB); (case side4 => exact HC0_4.out); (case side5 => exact Kd.C_w HR0_5 HB); (case side6 => exact HC0_5.out); rintro e w20 ⟨v262, v265, v268, rfl, ho0, ho1, ho2, hb⟩; refine ⟨_, rfl, ?_⟩; have HO263 := Aside0.mk (Kd.R_lower ho0 (below_size (hb_ HB))); have HO266 := Aside0.mk (Kd.R_lower ho1 (below_size (hb_ HB))); have HO269 := Aside0.mk (Kd.R_lower ho2 (below_size (hb_ HB))); replace BK256 := kb_ BK256 hb; replace HB := hbs_ HB hb; (try clear hb); (try clear hb2); (try clear hk); (try clear hi); (try clear ho0); (try clear ho1); (try clear ho2); obtain ⟨Ao21, co21, eo21⟩ := Kd.R_slice HO263.out; subst eo21; obtain ⟨Ao22, co22, eo22⟩ := Kd.R_slice HO266.out; subst eo22; obtain ⟨Ao23, co23, eo23⟩ := Kd.R_slice HO269.out; subst eo23) | ((with_reducible refine gate_callee (f := 8) rfl ?_); refine gl_ (some 34) Try.func8 #[.agg #[.int .i64 t258, .int .i64 t259, .int .i64 t260, .slice Ao21 t261.length co21, .slice Ao22 t264.length co22, .slice Ao23 t267.length co23], .int .i64 a1, .int .i64 a2, .int .i64 a3, .int .i64 a4] rfl rfl rfl ?_; (with_reducible refine (spec_SetBlock.calls k t258 t259 t260 _ _ t261 _ _ t264 _ _ t267 a1 a2 a3 a4 t270 t271 t272 t273 t276 t279 t282 _ ?side1 ?side2 ?side3 ?side4 ?side5 ?side6 A12.out).mono ?_); (case side1 => exact Kd.C_o HO263); (case side2 => exact (Kd.R_reads' HO263.out).2.1); (case side3 => exact Kd.C_o HO266); (case side4 => exact (Kd.R_reads' HO266.out).2.1); (case side5 => exact Kd.C_o HO269); (case side6 => exact (Kd.R_reads' HO269.out).2.1); rintro e w24 ⟨v274, v277, v280, rfl, ho0, ho1, ho2, hb⟩; refine ⟨_, rfl, ?_⟩; have HO275 := Aside0.mk (Kd.R_lower (Kd.R_new' (Kd.R_new' (Kd.R_new' ho0 (Kd.R_lt (Kd.R_p HO263))) (Kd.R_lt (Kd.R_p HO266))) (Kd.R_lt (Kd.R_p HO269))) (below_size (hb_ HB))); have HO278 := Aside0.mk (Kd.R_lower (Kd.R_new' (Kd.R_new' (Kd.R_new' ho1 (Kd.R_lt (Kd.R_p HO263))) (Kd.R_lt (Kd.R_p HO266))) (Kd.R_lt (Kd.R_p HO269))) (below_size (hb_ HB))); have HO281 := Aside0.mk (Kd.R_lower (Kd.R_new' (Kd.R_new' (Kd.R_new' ho2 (Kd.R_lt (Kd.R_p HO263))) (Kd.R_lt (Kd.R_p HO266))) (Kd.R_lt (Kd.R_p HO269))) (below_size (hb_ HB))); replace HO263 := Kd.R_e3 HO263 ho0 ho1 ho2 hb; replace HO266 := Kd.R_e3 HO266 ho0 ho1 ho2 hb; replace HO269 := Kd.R_e3 HO269 ho0 ho1 ho2 hb; replace BK256 := kb_ BK256 hb; replace HB := hbs_ HB hb; (try clear hb); (try clear hb2); (try clear hk); (try clear hi); (try clear ho0); (try clear ho1); (try clear ho2); try clear HO263; try clear HO266; try clear HO269) | ((with_reducible refine gate_dst (N := 12) rfl ?_); refine box_event ?hg (N := 12) ?hd (cs := #[.int .i64 0, .int .i64 0, .int .i64 0, .slice none 0 0, .slice none 0 0, .slice none 0 0]) (t := 30) ?hr ?_; (case hd => rfl); (case hg => rfl); (case hr => first | (go_simp; done) | (go_simp; rfl)); intro gb283 hg w25 hbox hb; have BK283 := Aside0.mk (hbox); have GW283 := gs_ hg HB; have GE283 := gs_ hg HB; have NB256_283 := nl_ hg BK256; have NB283_256 := ng_ hg BK256; replace HO275 := Kd.R_b HO275 hb; replace HO278 := Kd.R_b HO278 hb; replace HO281 := Kd.R_b HO281 hb; replace BK256 := kb_ BK256 hb; replace HB := hbs_ HB hb; clear hb hbox hg; have hnb26 := NB283_256.out; have hnc26 := NB256_283.out; obtain ⟨hcz27_0, hcz27_1, hcz27_2, hcz27_3, hcz27_4, hcz27_5, hfz27_0, hfz27_1, hfz27_2, hfz27_3, hfz27_4, hfz27_5⟩ := bx6 BK283; obtain ⟨Ao28, co28, eo28⟩ := Kd.R_slice HO275.out; subst eo28; obtain ⟨Ao29, co29, eo29⟩ := Kd.R_slice HO278.out; subst eo29; obtain ⟨Ao30, co30, eo30⟩ := Kd.R_slice HO281.out; subst eo30; obtain ⟨hcz31_0, hcz31_1, hcz31_2, hcz31_3, hcz31_4, hcz31_5, hfz31_0, hfz31_1, hfz31_2, hfz31_3, hfz31_4, hfz31_5⟩ := bx6 BK256) | ((with_reducible refine gate_callee (f := 9) rfl ?_); refine gl_ (some 38) Try.func9 #[.agg #[.int .i64 a0_0, .int .i64 a0_1, .int .i64 a0_2, .slice A0_3 l0_3.length c0_3, .slice A0_4 l0_4.length c0_4, .slice A0_5 l0_5.length c0_5]] rfl rfl rfl ?_; (with_reducible refine (laws_toModel.calls k a0_0 a0_1 a0_2 _ _ l0_3 _ _ l0_4 _ _ l0_5 t284 t285 t286 t287 t290 t293 _ ?side1 ?side2 ?side3 ?side4 ?side5 ?side6 A13.out).mono ?_); (case side1 => exact Kd.C_below HR0_3.out (hb_ HB)); (case side2 => exact HC0_3.out); (case side3 => exact Kd.C_below HR0_4.out (hb_ HB)); (case side4 => exact HC0_4.out); (case side5 => exact Kd.C_below HR0_5.out (hb_ HB)); (case side6 => exact HC0_5.out); rintro e w32 ⟨v288, v291, v294, rfl, ho0, ho1, ho2, hb⟩; refine ⟨_, rfl, ?_⟩; have HO289 := Aside0.mk (Kd.R_lower (Kd.R_new' (Kd.R_new' (Kd.R_new' ho0 (Kd.R_lt (Kd.R_s HO275 BK283))) (Kd.R_lt (Kd.R_s HO278 BK283))) (Kd.R_lt (Kd.R_s HO281 BK283))) (below_size (hb_ HB))); have HO292 := Aside0.mk (Kd.R_lower (Kd.R_new' (Kd.R_new' (Kd.R_new' ho1 (Kd.R_lt (Kd.R_s HO275 BK283))) (Kd.R_lt (Kd.R_s HO278 BK283))) (Kd.R_lt (Kd.R_s HO281 BK283))) (below_size (hb_ HB))); have HO295 := Aside0.mk (Kd.R_lower (Kd.R_new' (Kd.R_new' (Kd.R_new' ho2 (Kd.R_lt (Kd.R_s HO275 BK283))) (Kd.R_lt (Kd.R_s HO278 BK283))) (Kd.R_lt (Kd.R_s HO281 BK283))) (below_size (hb_ HB))); replace HO275 := Aside0.mk (Kd.R_mono (Kd.R_told (Kd.R_told (Kd.R_told (Kd.R_old (Kd.R_s HO275 BK283) hb) (Kd.R_base ho0)) (Kd.R_base ho1)) (Kd.R_base ho2)) (fun _ h_ => h_.1)); replace HO278 := Aside0.mk (Kd.R_mono (Kd.R_told (Kd.R_told (Kd.R_told (Kd.R_old (Kd.R_s HO278 BK283) hb) (Kd.R_base ho0)) (Kd.R_base ho1)) (Kd.R_base ho2)) (fun _ h_ => h_.1)); replace HO281 := Aside0.mk (Kd.R_mono (Kd.R_told (Kd.R_told (Kd.R_told (Kd.R_old (Kd.R_s HO281 BK283) hb) (Kd.R_base ho0)) (Kd.R_base ho1)) (Kd.R_base ho2)) (fun _ h_ => h_.1)); replace BK256 := kfb_ BK256 NB256_283 hb; replace HB := hbs_ HB hb; replace BK283 := Aside0.mk (blk_below (g := gb283) (o := .cells #[.int .i64 t270, .int .i64 t271, .int .i64 t272, .slice Ao28 t273.length co28, .slice Ao29 t276.length co29, .slice Ao30 t279.length co30] 30 (0, 0)) (kpq_ (kputs BK283 [(0, .int .i64 t270), (1, .int .i64 t271), (2, .int .i64 t272), (3, .slice Ao28 t273.length co28), (4, .slice Ao29 t276.length co29), (5, .slice Ao30 t279.length co30)])) hb); (try clear hb); (try clear hb2); (try clear hk); (try clear hi); (try clear ho0); (try clear ho1); (try clear ho2)) | ((with_reducible refine gate_dst (N := 14) rfl ?_); refine box_event ?hg (N := 14) ?hd (cs := #[.int .i64 0, .int .i64 0, .int .i64 0, .slice none 0 0, .slice none 0 0, .slice none 0 0]) (t := 30) ?hr ?_; (case hd => rfl); (case hg => rfl); (case hr => first | (go_simp; done) | (go_simp; rfl)); intro gb296 hg w33 hbox hb; have BK296 := Aside0.mk (hbox); have GW296 := gs_ hg HB; have GE296 := gs_ hg HB; have NB256_296 := nl_ hg BK256; have NB296_256 := ng_ hg BK256; have NB283_296 := nl_ hg BK283; have NB296_283 := ng_ hg BK283; replace HO275 := Kd.R_b HO275 hb; replace HO278 := Kd.R_b HO278 hb; replace HO281 := Kd.R_b HO281 hb; replace HO289 := Kd.R_b HO289 hb; replace HO292 := Kd.R_b HO292 hb; replace HO295 := Kd.R_b HO295 hb; replace BK256 := kb_ BK256 hb; replace BK283 := kb_ BK283 hb; replace HB := hbs_ HB hb; clear hb hbox hg; have hnb34 := NB296_256.out; have hnc34 := NB256_296.out; have hnb35 := NB296_283.out; have hnc35 := NB283_296.out; obtain ⟨hcz36_0, hcz36_1, hcz36_2, hcz36_3, hcz36_4, hcz36_5, hfz36_0, hfz36_1, hfz36_2, hfz36_3, hfz36_4, hfz36_5⟩ := bx6 BK296; obtain ⟨Ao37, co37, eo37⟩ := Kd.R_slice HO289.out; subst eo37; obtain ⟨Ao38, co38, eo38⟩ := Kd.R_slice HO292.out; subst eo38; obtain ⟨Ao39, co39, eo39⟩ := Kd.R_slice HO295.out; subst eo39) | ((with_reducible refine gate_callee (f := 10) rfl ?_); refine gl_ (some 45) Try.func10 #[.agg #[.int .i64 t284, .int .i64 t285, .int .i64 t286, .slice Ao37 t287.length co37, .slice Ao38 t290.length co38, .slice Ao39 t293.length co39], .int .i64 a1, .int .i64 a2, .int .i64 a3, .int .i64 a4] rfl rfl rfl ?_; (with_reducible refine (impl_SetBlock.calls k t284 t285 t286 _ _ t287 _ _ t290 _ _ t293 a1 a2 a3 a4 t297 t298 t299 t300 t303 t306 t309 _ ?side1 ?side2 ?side3 ?side4 ?side5 ?side6 A14.out).mono ?_); (case side1 => exact (Kd.R_reads' (Kd.R_s HO289 BK296)).2.2); (case side2 => exact (Kd.R_reads' HO289.out).2.1); (case side3 => exact (Kd.R_reads' (Kd.R_s HO292 BK296)).2.2); (case side4 => exact (Kd.R_reads' HO292.out).2.1); (case side5 => exact (Kd.R_reads' (Kd.R_s HO295 BK296)).2.2); (case side6 => exact (Kd.R_reads' HO295.out).2.1); rintro e w40 ⟨v301, v304, v307, rfl, ho0, ho1, ho2, hb⟩; refine ⟨_, rfl, ?_⟩; have HO302 := Aside0.mk (Kd.R_lower (Kd.R_new' (Kd.R_new' (Kd.R_new' (Kd.R_new' (Kd.R_new' (Kd.R_new' ho0 (Kd.R_lt (Kd.R_s HO275 BK296))) (Kd.R_lt (Kd.R_s HO278 BK296))) (Kd.R_lt (Kd.R_s HO281 BK296))) (Kd.R_lt (Kd.R_s HO289 BK296))) (Kd.R_lt (Kd.R_s HO292 BK296))) (Kd.R_lt (Kd.R_s HO295 BK296))) (below_size (hb_ HB))); have HO305 := Aside0.mk (Kd.R_lower (Kd.R_new' (Kd.R_new' (Kd.R_new' (Kd.R_new' (Kd.R_new' (Kd.R_new' ho1 (Kd.R_lt (Kd.R_s HO275 BK296))) (Kd.R_lt (Kd.R_s HO278 BK296))) (Kd.R_lt (Kd.R_s HO281 BK296))) (Kd.R_lt (Kd.R_s HO289 BK296))) (Kd.R_lt (Kd.R_s HO292 BK296))) (Kd.R_lt (Kd.R_s HO295 BK296))) (below_size (hb_ HB))); have HO308 := Aside0.mk (Kd.R_lower (Kd.R_new' (Kd.R_new' (Kd.R_new' (Kd.R_new' (Kd.R_new' (Kd.R_new' ho2 (Kd.R_lt (Kd.R_s HO275 BK296))) (Kd.R_lt (Kd.R_s HO278 BK296))) (Kd.R_lt (Kd.R_s HO281 BK296))) (Kd.R_lt (Kd.R_s HO289 BK296))) (Kd.R_lt (Kd.R_s HO292 BK296))) (Kd.R_lt (Kd.R_s HO295 BK296))) (below_size (hb_ HB))); replace HO275 := Aside0.mk (Kd.R_mono (Kd.R_told (Kd.R_told (Kd.R_told (Kd.R_old (Kd.R_s HO275 BK296) hb) (Kd.R_base ho0)) (Kd.R_base ho1)) (Kd.R_base ho2)) (fun _ h_ => h_.1)); replace HO278 := Aside0.mk (Kd.R_mono (Kd.R_told (Kd.R_told (Kd.R_told (Kd.R_old (Kd.R_s HO278 BK296) hb) (Kd.R_base ho0)) (Kd.R_base ho1)) (Kd.R_base ho2)) (fun _ h_ => h_.1)); replace HO281 := Aside0.mk (Kd.R_mono (Kd.R_told (Kd.R_told (Kd.R_told (Kd.R_old (Kd.R_s HO281 BK296) hb) (Kd.R_base ho0)) (Kd.R_base ho1)) (Kd.R_base ho2)) (fun _ h_ => h_.1)); replace HO289 := Aside0.mk (Kd.R_mono (Kd.R_told (Kd.R_told (Kd.R_told (Kd.R_old (Kd.R_s HO289 BK296) hb) (Kd.R_base ho0)) (Kd.R_base ho1)) (Kd.R_base ho2)) (fun _ h_ => h_.1)); replace HO292 := Aside0.mk (Kd.R_mono (Kd.R_told (Kd.R_told (Kd.R_told (Kd.R_old (Kd.R_s HO292 BK296) hb) (Kd.R_base ho0)) (Kd.R_base ho1)) (Kd.R_base ho2)) (fun _ h_ => h_.1)); replace HO295 := Aside0.mk (Kd.R_mono (Kd.R_told (Kd.R_told (Kd.R_told (Kd.R_old (Kd.R_s HO295 BK296) hb) (Kd.R_base ho0)) (Kd.R_base ho1)) (Kd.R_base ho2)) (fun _ h_ => h_.1)); replace BK256 := kfb_ BK256 NB256_296 hb; replace BK283 := kfb_ BK283 NB283_296 hb; replace HB := hbs_ HB hb; replace BK296 := Aside0.mk (blk_below (g := gb296) (o := .cells #[.int .i64 t284, .int .i64 t285, .int .i64 t286, .slice Ao37 t287.length co37, .slice Ao38 t290.length co38, .slice Ao39 t293.length co39] 30 (0, 0)) (kpq_ (kputs BK296 [(0, .int .i64 t284), (1, .int .i64 t285), (2, .int .i64 t286), (3, .slice Ao37 t287.length co37), (4, .slice Ao38 t290.length co38), (5, .slice Ao39 t293.length co39)])) hb); (try clear hb); (try clear hb2); (try clear hk); (try clear hi); (try clear ho0); (try clear ho1); (try clear ho2)) | ((with_reducible refine gate_dst (N := 15) rfl ?_); refine box_event ?hg (N := 15) ?hd (cs := #[.int .i64 0, .int .i64 0, .int .i64 0, .slice none 0 0, .slice none 0 0, .slice none 0 0]) (t := 30) ?hr ?_; (case hd => rfl); (case hg => rfl); (case hr => first | (go_simp; done) | (go_simp; rfl)); intro gb310 hg w41 hbox hb; have BK310 := Aside0.mk (hbox); have GW310 := gs_ hg HB; have GE310 := gs_ hg HB; have NB256_310 := nl_ hg BK256; have NB310_256 := ng_ hg BK256; have NB283_310 := nl_ hg BK283; have NB310_283 := ng_ hg BK283; have NB296_310 := nl_ hg BK296; have NB310_296 := ng_ hg BK296; replace HO275 := Kd.R_b HO275 hb; replace HO278 := Kd.R_b HO278 hb; replace HO281 := Kd.R_b HO281 hb; replace HO289 := Kd.R_b HO289 hb; replace HO292 := Kd.R_b HO292 hb; replace HO295 := Kd.R_b HO295 hb; replace HO302 := Kd.R_b HO302 hb; replace HO305 := Kd.R_b HO305 hb; replace HO308 := Kd.R_b HO308 hb; replace BK256 := kb_ BK256 hb; replace BK283 := kb_ BK283 hb; replace BK296 := kb_ BK296 hb; replace HB := hbs_ HB hb; clear hb hbox hg; have hnb42 := NB310_256.out; have hnc42 := NB256_310.out; have hnb43 := NB310_283.out; have hnc43 := NB283_310.out; have hnb44 := NB310_296.out; have hnc44 := NB296_310.out; obtain ⟨hcz45_0, hcz45_1, hcz45_2, hcz45_3, hcz45_4, hcz45_5, hfz45_0, hfz45_1, hfz45_2, hfz45_3, hfz45_4, hfz45_5⟩ := bx6 BK310; obtain ⟨Ao46, co46, eo46⟩ := Kd.R_slice HO302.out; subst eo46; obtain ⟨Ao47, co47, eo47⟩ := Kd.R_slice HO305.out; subst eo47; obtain ⟨Ao48, co48, eo48⟩ := Kd.R_slice HO308.out; subst eo48))
  (try simp only [Act.put, List.setIfInBounds_toArray, List.set_cons_zero, List.set_cons_succ])
  go_cut [56] (fun v56 wc => ∃ (kq : Nat) (x56_14 : Bool), v56 = .bool x56_14 ∧ Aside0 (laws_FnExactSetBlock.j0 kq a1 a2 a3 a4 t282 t309 x56_14 a0_0 a0_1 a0_2 l0_3 l0_4 l0_5 t270 t271 t272 t273 t276 t279 t284 t285 t286 t287 t290 t293 t297 t298 t299 t300 t303 t306 = some r) ∧ Aside0 (kq ≤ k) ∧ Aside0 (Kd.R (Kd.int .i64) 3 wc w.heap.size (fun k_ => some k_ ≠ ((.slice Ao29 t276.length co29) : Value).ownBlock ∧ some k_ ≠ ((.slice Ao30 t279.length co30) : Value).ownBlock ∧ some k_ ≠ ((.slice Ao37 t287.length co37) : Value).ownBlock ∧ some k_ ≠ ((.slice Ao38 t290.length co38) : Value).ownBlock ∧ some k_ ≠ ((.slice Ao39 t293.length co39) : Value).ownBlock ∧ some k_ ≠ ((.slice Ao46 t300.length co46) : Value).ownBlock ∧ some k_ ≠ ((.slice Ao47 t303.length co47) : Value).ownBlock ∧ some k_ ≠ ((.slice Ao48 t306.length co48) : Value).ownBlock) (.slice Ao28 t273.length co28) t273) ∧ Aside0 (Kd.R (Kd.int .i64) 3 wc w.heap.size (fun k_ => some k_ ≠ ((.slice Ao28 t273.length co28) : Value).ownBlock ∧ some k_ ≠ ((.slice Ao30 t279.length co30) : Value).ownBlock ∧ some k_ ≠ ((.slice Ao37 t287.length co37) : Value).ownBlock ∧ some k_ ≠ ((.slice Ao38 t290.length co38) : Value).ownBlock ∧ some k_ ≠ ((.slice Ao39 t293.length co39) : Value).ownBlock ∧ some k_ ≠ ((.slice Ao46 t300.length co46) : Value).ownBlock ∧ some k_ ≠ ((.slice Ao47 t303.length co47) : Value).ownBlock ∧ some k_ ≠ ((.slice Ao48 t306.length co48) : Value).ownBlock) (.slice Ao29 t276.length co29) t276) ∧ Aside0 (Kd.R (Kd.int .i64) 3 wc w.heap.size (fun k_ => some k_ ≠ ((.slice Ao28 t273.length co28) : Value).ownBlock ∧ some k_ ≠ ((.slice Ao29 t276.length co29) : Value).ownBlock ∧ some k_ ≠ ((.slice Ao37 t287.length co37) : Value).ownBlock ∧ some k_ ≠ ((.slice Ao38 t290.length co38) : Value).ownBlock ∧ some k_ ≠ ((.slice Ao39 t293.length co39) : Value).ownBlock ∧ some k_ ≠ ((.slice Ao46 t300.length co46) : Value).ownBlock ∧ some k_ ≠ ((.slice Ao47 t303.length co47) : Value).ownBlock ∧ some k_ ≠ ((.slice Ao48 t306.length co48) : Value).ownBlock) (.slice Ao30 t279.length co30) t279) ∧ Aside0 (Kd.R (Kd.int .i64) 3 wc w.heap.size (fun k_ => some k_ ≠ ((.slice Ao28 t273.length co28) : Value).ownBlock ∧ some k_ ≠ ((.slice Ao29 t276.length co29) : Value).ownBlock ∧ some k_ ≠ ((.slice Ao30 t279.length co30) : Value).ownBlock ∧ some k_ ≠ ((.slice Ao38 t290.length co38) : Value).ownBlock ∧ some k_ ≠ ((.slice Ao39 t293.length co39) : Value).ownBlock ∧ some k_ ≠ ((.slice Ao46 t300.length co46) : Value).ownBlock ∧ some k_ ≠ ((.slice Ao47 t303.length co47) : Value).ownBlock ∧ some k_ ≠ ((.slice Ao48 t306.length co48) : Value).ownBlock) (.slice Ao37 t287.length co37) t287) ∧ Aside0 (Kd.R (Kd.int .i64) 3 wc w.heap.size (fun k_ => some k_ ≠ ((.slice Ao28 t273.length co28) : Value).ownBlock ∧ some k_ ≠ ((.slice Ao29 t276.length co29) : Value).ownBlock ∧ some k_ ≠ ((.slice Ao30 t279.length co30) : Value).ownBlock ∧ some k_ ≠ ((.slice Ao37 t287.length co37) : Value).ownBlock ∧ some k_ ≠ ((.slice Ao39 t293.length co39) : Value).ownBlock ∧ some k_ ≠ ((.slice Ao46 t300.length co46) : Value).ownBlock ∧ some k_ ≠ ((.slice Ao47 t303.length co47) : Value).ownBlock ∧ some k_ ≠ ((.slice Ao48 t306.length co48) : Value).ownBlock) (.slice Ao38 t290.length co38) t290) ∧ Aside0 (Kd.R (Kd.int .i64) 3 wc w.heap.size (fun k_ => some k_ ≠ ((.slice Ao28 t273.length co28) : Value).ownBlock ∧ some k_ ≠ ((.slice Ao29 t276.length co29) : Value).ownBlock ∧ some k_ ≠ ((.slice Ao30 t279.length co30) : Value).ownBlock ∧ some k_ ≠ ((.slice Ao37 t287.length co37) : Value).ownBlock ∧ some k_ ≠ ((.slice Ao38 t290.length co38) : Value).ownBlock ∧ some k_ ≠ ((.slice Ao46 t300.length co46) : Value).ownBlock ∧ some k_ ≠ ((.slice Ao47 t303.length co47) : Value).ownBlock ∧ some k_ ≠ ((.slice Ao48 t306.length co48) : Value).ownBlock) (.slice Ao39 t293.length co39) t293) ∧ Aside0 (Kd.R (Kd.int .i64) 3 wc w.heap.size (fun k_ => some k_ ≠ ((.slice Ao28 t273.length co28) : Value).ownBlock ∧ some k_ ≠ ((.slice Ao29 t276.length co29) : Value).ownBlock ∧ some k_ ≠ ((.slice Ao30 t279.length co30) : Value).ownBlock ∧ some k_ ≠ ((.slice Ao37 t287.length co37) : Value).ownBlock ∧ some k_ ≠ ((.slice Ao38 t290.length co38) : Value).ownBlock ∧ some k_ ≠ ((.slice Ao39 t293.length co39) : Value).ownBlock ∧ some k_ ≠ ((.slice Ao47 t303.length co47) : Value).ownBlock ∧ some k_ ≠ ((.slice Ao48 t306.length co48) : Value).ownBlock) (.slice Ao46 t300.length co46) t300) ∧ Aside0 (Kd.R (Kd.int .i64) 3 wc w.heap.size (fun k_ => some k_ ≠ ((.slice Ao28 t273.length co28) : Value).ownBlock ∧ some k_ ≠ ((.slice Ao29 t276.length co29) : Value).ownBlock ∧ some k_ ≠ ((.slice Ao30 t279.length co30) : Value).ownBlock ∧ some k_ ≠ ((.slice Ao37 t287.length co37) : Value).ownBlock ∧ some k_ ≠ ((.slice Ao38 t290.length co38) : Value).ownBlock ∧ some k_ ≠ ((.slice Ao39 t293.length co39) : Value).ownBlock ∧ some k_ ≠ ((.slice Ao46 t300.length co46) : Value).ownBlock ∧ some k_ ≠ ((.slice Ao48 t306.length co48) : Value).ownBlock) (.slice Ao47 t303.length co47) t303) ∧ Aside0 (Kd.R (Kd.int .i64) 3 wc w.heap.size (fun k_ => some k_ ≠ ((.slice Ao28 t273.length co28) : Value).ownBlock ∧ some k_ ≠ ((.slice Ao29 t276.length co29) : Value).ownBlock ∧ some k_ ≠ ((.slice Ao30 t279.length co30) : Value).ownBlock ∧ some k_ ≠ ((.slice Ao37 t287.length co37) : Value).ownBlock ∧ some k_ ≠ ((.slice Ao38 t290.length co38) : Value).ownBlock ∧ some k_ ≠ ((.slice Ao39 t293.length co39) : Value).ownBlock ∧ some k_ ≠ ((.slice Ao46 t300.length co46) : Value).ownBlock ∧ some k_ ≠ ((.slice Ao47 t303.length co47) : Value).ownBlock) (.slice Ao48 t306.length co48) t306) ∧ Aside0 (wc.heap[gb256]? = some (.cells #[.int .i64 a0_0, .int .i64 a0_1, .int .i64 a0_2, (.slice A0_3 l0_3.length c0_3), (.slice A0_4 l0_4.length c0_4), (.slice A0_5 l0_5.length c0_5)] 26 (0, 0))) ∧ Aside0 (wc.heap[gb283]? = some (.cells #[.int .i64 t270, .int .i64 t271, .int .i64 t272, (.slice Ao28 t273.length co28), (.slice Ao29 t276.length co29), (.slice Ao30 t279.length co30)] 30 (0, 0))) ∧ Aside0 (wc.heap[gb296]? = some (.cells #[.int .i64 t284, .int .i64 t285, .int .i64 t286, (.slice Ao37 t287.length co37), (.slice Ao38 t290.length co38), (.slice Ao39 t293.length co39)] 30 (0, 0))) ∧ Aside0 (wc.heap[gb310]? = some (.cells #[.int .i64 t297, .int .i64 t298, .int .i64 t299, (.slice Ao46 t300.length co46), (.slice Ao47 t303.length co47), (.slice Ao48 t306.length co48)] 30 (0, 0))) ∧ Aside0 (Below w.heap.size w wc))
  case first =>
   have H := HC15.out
   clear HC15
   replace H := Option.bind_eq_some_iff.mp H
   obtain ⟨t311, A490, H⟩ := H
   replace H : (if t311 = true then (laws_FnExactSetBlock.j0 k a1 a2 a3 a4 t282 t309 (t309 != t282) a0_0 a0_1 a0_2 l0_3 l0_4 l0_5 t270 t271 t272 t273 t276 t279 t284 t285 t286 t287 t290 t293 t297 t298 t299 t300 t303 t306) else (laws_FnExactSetBlock.j0 k a1 a2 a3 a4 t282 t309 true a0_0 a0_1 a0_2 l0_3 l0_4 l0_5 t270 t271 t272 t273 t276 t279 t284 t285 t286 t287 t290 t293 t297 t298 t299 t300 t303 t306)) = some r := H
   have A49 := Aside0.mk A490
   clear A490
   by_cases c50 : t311 = true
   ·subst c50
    have H1 : (laws_FnExactSetBlock.j0 k a1 a2 a3 a4 t282 t309 (t309 != t282) a0_0 a0_1 a0_2 l0_3 l0_4 l0_5 t270 t271 t272 t273 t276 t279 t284 t285 t286 t287 t290 t293 t297 t298 t299 t300 t303 t306) = some r := by rw [if_pos rfl] at H; exact H
    clear H
    have H := H1
    clear H1
    have H' := Aside0.mk H
    clear H
    have hnb51 := NB310_256.out
    have hnc51 := NB256_310.out
    have hnb52 := NB310_283.out
    have hnc52 := NB283_310.out
    have hnb53 := NB310_296.out
    have hnc53 := NB296_310.out
    have hcz54_0 : w41.cell? ⟨gb310, 0, none⟩ = some (.int .i64 0) := (blk_cell BK310.out 0).trans rfl
    have hcz54_1 : w41.cell? ⟨gb310, 1, none⟩ = some (.int .i64 0) := (blk_cell BK310.out 1).trans rfl
    have hcz54_2 : w41.cell? ⟨gb310, 2, none⟩ = some (.int .i64 0) := (blk_cell BK310.out 2).trans rfl
    have hcz54_3 : w41.cell? ⟨gb310, 3, none⟩ = some (.slice none 0 0) := (blk_cell BK310.out 3).trans rfl
    have hcz54_4 : w41.cell? ⟨gb310, 4, none⟩ = some (.slice none 0 0) := (blk_cell BK310.out 4).trans rfl
    have hcz54_5 : w41.cell? ⟨gb310, 5, none⟩ = some (.slice none 0 0) := (blk_cell BK310.out 5).trans rfl
    have hfz54_0 := blk_frozen BK310.out 0
    have hfz54_1 := blk_frozen BK310.out 1
    have hfz54_2 := blk_frozen BK310.out 2
    have hfz54_3 := blk_frozen BK310.out 3
    have hfz54_4 := blk_frozen BK310.out 4
    have hfz54_5 := blk_frozen BK310.out 5
    have hnb55 := NB283_256.out
    have hnc55 := NB256_283.out
    have hnb56 := NB283_296.out
    have hnc56 := NB296_283.out
    have hcz57_0 : w41.cell? ⟨gb283, 0, none⟩ = some (.int .i64 t270) := (blk_cell BK283.out 0).trans rfl
    have hcz57_1 : w41.cell? ⟨gb283, 1, none⟩ = some (.int .i64 t271) := (blk_cell BK283.out 1).trans rfl
    have hcz57_2 : w41.cell? ⟨gb283, 2, none⟩ = some (.int .i64 t272) := (blk_cell BK283.out 2).trans rfl
    have hcz57_3 : w41.cell? ⟨gb283, 3, none⟩ = some (.slice Ao28 t273.length co28) := (blk_cell BK283.out 3).trans rfl
    have hcz57_4 : w41.cell? ⟨gb283, 4, none⟩ = some (.slice Ao29 t276.length co29) := (blk_cell BK283.out 4).trans rfl
    have hcz57_5 : w41.cell? ⟨gb283, 5, none⟩ = some (.slice Ao30 t279.length co30) := (blk_cell BK283.out 5).trans rfl
    have hfz57_0 := blk_frozen BK283.out 0
    have hfz57_1 := blk_frozen BK283.out 1
    have hfz57_2 := blk_frozen BK283.out 2
    have hfz57_3 := blk_frozen BK283.out 3
    have hfz57_4 := blk_frozen BK283.out 4
    have hfz57_5 := blk_frozen BK283.out 5
    go_wp2_with (first | ((with_reducible refine gate_callee (f := 11) rfl ?_); refine gl_ (some 50) Try.func11 #[.agg #[.int .i64 t297, .int .i64 t298, .int .i64 t299, .slice Ao46 t300.length co46, .slice Ao47 t303.length co47, .slice Ao48 t306.length co48], .agg #[.int .i64 t270, .int .i64 t271, .int .i64 t272, .slice Ao28 t273.length co28, .slice Ao29 t276.length co29, .slice Ao30 t279.length co30]] rfl rfl rfl ?_; (with_reducible refine (laws_eqModel.calls k t297 t298 t299 _ _ t300 _ _ t303 _ _ t306 t270 t271 t272 _ _ t273 _ _ t276 _ _ t279 true _ ?side1 ?side2 ?side3 ?side4 ?side5 ?side6 ?side7 ?side8 ?side9 ?side10 ?side11 ?side12 A49.out).mono ?_); (case side1 => exact (Kd.R_reads' (Kd.R_s HO302 BK310)).2.2); (case side2 => exact (Kd.R_reads' HO302.out).2.1); (case side3 => exact (Kd.R_reads' (Kd.R_s HO305 BK310)).2.2); (case side4 => exact (Kd.R_reads' HO305.out).2.1); (case side5 => exact (Kd.R_reads' (Kd.R_s HO308 BK310)).2.2); (case side6 => exact (Kd.R_reads' HO308.out).2.1); (case side7 => exact (Kd.R_reads' (Kd.R_s HO275 BK310)).2.2); (case side8 => exact (Kd.R_reads' HO275.out).2.1); (case side9 => exact (Kd.R_reads' (Kd.R_s HO278 BK310)).2.2); (case side10 => exact (Kd.R_reads' HO278.out).2.1); (case side11 => exact (Kd.R_reads' (Kd.R_s HO281 BK310)).2.2); (case side12 => exact (Kd.R_reads' HO281.out).2.1); rintro e w58 ⟨rfl, hb⟩; refine ⟨_, rfl, ?_⟩; replace HO275 := Kd.R_sb HO275 BK310 hb; replace HO278 := Kd.R_sb HO278 BK310 hb; replace HO281 := Kd.R_sb HO281 BK310 hb; replace HO289 := Kd.R_sb HO289 BK310 hb; replace HO292 := Kd.R_sb HO292 BK310 hb; replace HO295 := Kd.R_sb HO295 BK310 hb; replace HO302 := Kd.R_sb HO302 BK310 hb; replace HO305 := Kd.R_sb HO305 BK310 hb; replace HO308 := Kd.R_sb HO308 BK310 hb; replace BK256 := kfb_ BK256 NB256_310 hb; replace BK283 := kfb_ BK283 NB283_310 hb; replace BK296 := kfb_ BK296 NB296_310 hb; replace HB := hbs_ HB hb; replace BK310 := Aside0.mk (blk_below (g := gb310) (o := .cells #[.int .i64 t297, .int .i64 t298, .int .i64 t299, .slice Ao46 t300.length co46, .slice Ao47 t303.length co47, .slice Ao48 t306.length co48] 30 (0, 0)) (kpq_ (kputs BK310 [(0, .int .i64 t297), (1, .int .i64 t298), (2, .int .i64 t299), (3, .slice Ao46 t300.length co46), (4, .slice Ao47 t303.length co47), (5, .slice Ao48 t306.length co48)])) hb); (try clear hb); (try clear hb2); (try clear hk); (try clear hi)))
    go_meet
    case rel => exact ⟨_, ((t309 != t282)), (by first | rfl | (simp; done) | (simp [*]; done)), H', ⟨by first | omega | exact Nat.le_refl _⟩, ⟨Kd.R_pp (Kd.R_mono HO275.out (fun _ hk => ⟨hk.1.1.1.1.1.1.1.1.1.1, ⟨hk.1.1.1.1.1.1.1.1.1.2, ⟨hk.1.1.1.1.1.2, ⟨hk.1.1.1.1.2, ⟨hk.1.1.1.2, ⟨hk.1.1.2, ⟨hk.1.2, hk.2⟩⟩⟩⟩⟩⟩⟩))⟩, ⟨Kd.R_pp (Kd.R_mono HO278.out (fun _ hk => ⟨hk.1.1.1.1.1.1.1.1.1.1, ⟨hk.1.1.1.1.1.1.1.1.1.2, ⟨hk.1.1.1.1.1.2, ⟨hk.1.1.1.1.2, ⟨hk.1.1.1.2, ⟨hk.1.1.2, ⟨hk.1.2, hk.2⟩⟩⟩⟩⟩⟩⟩))⟩, ⟨Kd.R_pp (Kd.R_mono HO281.out (fun _ hk => ⟨hk.1.1.1.1.1.1.1.1.1.1, ⟨hk.1.1.1.1.1.1.1.1.1.2, ⟨hk.1.1.1.1.1.2, ⟨hk.1.1.1.1.2, ⟨hk.1.1.1.2, ⟨hk.1.1.2, ⟨hk.1.2, hk.2⟩⟩⟩⟩⟩⟩⟩))⟩, ⟨Kd.R_pp (Kd.R_mono HO289.out (fun _ hk => ⟨hk.1.1.1.1.1.2, ⟨hk.1.1.1.1.2, ⟨hk.1.1.1.2, ⟨hk.1.1.1.1.1.1.1, ⟨hk.1.1.1.1.1.1.2, ⟨hk.1.1.2, ⟨hk.1.2, hk.2⟩⟩⟩⟩⟩⟩⟩))⟩, ⟨Kd.R_pp (Kd.R_mono HO292.out (fun _ hk => ⟨hk.1.1.1.1.1.2, ⟨hk.1.1.1.1.2, ⟨hk.1.1.1.2, ⟨hk.1.1.1.1.1.1.1, ⟨hk.1.1.1.1.1.1.2, ⟨hk.1.1.2, ⟨hk.1.2, hk.2⟩⟩⟩⟩⟩⟩⟩))⟩, ⟨Kd.R_pp (Kd.R_mono HO295.out (fun _ hk => ⟨hk.1.1.1.1.1.2, ⟨hk.1.1.1.1.2, ⟨hk.1.1.1.2, ⟨hk.1.1.1.1.1.1.1, ⟨hk.1.1.1.1.1.1.2, ⟨hk.1.1.2, ⟨hk.1.2, hk.2⟩⟩⟩⟩⟩⟩⟩))⟩, ⟨Kd.R_pp (Kd.R_mono HO302.out (fun _ hk => ⟨hk.1.1.1.1.1.2, ⟨hk.1.1.1.1.2, ⟨hk.1.1.1.2, ⟨hk.1.1.2, ⟨hk.1.2, ⟨hk.2, ⟨hk.1.1.1.1.1.1.1, hk.1.1.1.1.1.1.2⟩⟩⟩⟩⟩⟩⟩))⟩, ⟨Kd.R_pp (Kd.R_mono HO305.out (fun _ hk => ⟨hk.1.1.1.1.1.2, ⟨hk.1.1.1.1.2, ⟨hk.1.1.1.2, ⟨hk.1.1.2, ⟨hk.1.2, ⟨hk.2, ⟨hk.1.1.1.1.1.1.1, hk.1.1.1.1.1.1.2⟩⟩⟩⟩⟩⟩⟩))⟩, ⟨Kd.R_pp (Kd.R_mono HO308.out (fun _ hk => ⟨hk.1.1.1.1.1.2, ⟨hk.1.1.1.1.2, ⟨hk.1.1.1.2, ⟨hk.1.1.2, ⟨hk.1.2, ⟨hk.2, ⟨hk.1.1.1.1.1.1.1, hk.1.1.1.1.1.1.2⟩⟩⟩⟩⟩⟩⟩))⟩, ⟨kp_ BK256⟩, ⟨kp_ BK283⟩, ⟨kp_ BK296⟩, ⟨kp_ BK310⟩, ⟨hb_ HB⟩⟩
   ·replace c50 := Bool.eq_false_iff.mpr c50
    subst c50
    have H1 : (laws_FnExactSetBlock.j0 k a1 a2 a3 a4 t282 t309 true a0_0 a0_1 a0_2 l0_3 l0_4 l0_5 t270 t271 t272 t273 t276 t279 t284 t285 t286 t287 t290 t293 t297 t298 t299 t300 t303 t306) = some r := by rw [if_neg (show ¬ (false = true) by decide)] at H; exact H
    clear H
    have H := H1
    clear H1
    have H' := Aside0.mk H
    clear H
    have hnb59 := NB310_256.out
    have hnc59 := NB256_310.out
    have hnb60 := NB310_283.out
    have hnc60 := NB283_310.out
    have hnb61 := NB310_296.out
    have hnc61 := NB296_310.out
    have hcz62_0 : w41.cell? ⟨gb310, 0, none⟩ = some (.int .i64 0) := (blk_cell BK310.out 0).trans rfl
    have hcz62_1 : w41.cell? ⟨gb310, 1, none⟩ = some (.int .i64 0) := (blk_cell BK310.out 1).trans rfl
    have hcz62_2 : w41.cell? ⟨gb310, 2, none⟩ = some (.int .i64 0) := (blk_cell BK310.out 2).trans rfl
    have hcz62_3 : w41.cell? ⟨gb310, 3, none⟩ = some (.slice none 0 0) := (blk_cell BK310.out 3).trans rfl
    have hcz62_4 : w41.cell? ⟨gb310, 4, none⟩ = some (.slice none 0 0) := (blk_cell BK310.out 4).trans rfl
    have hcz62_5 : w41.cell? ⟨gb310, 5, none⟩ = some (.slice none 0 0) := (blk_cell BK310.out 5).trans rfl
    have hfz62_0 := blk_frozen BK310.out 0
    have hfz62_1 := blk_frozen BK310.out 1
    have hfz62_2 := blk_frozen BK310.out 2
    have hfz62_3 := blk_frozen BK310.out 3
    have hfz62_4 := blk_frozen BK310.out 4
    have hfz62_5 := blk_frozen BK310.out 5
    have hnb63 := NB283_256.out
    have hnc63 := NB256_283.out
    have hnb64 := NB283_296.out
    have hnc64 := NB296_283.out
    have hcz65_0 : w41.cell? ⟨gb283, 0, none⟩ = some (.int .i64 t270) := (blk_cell BK283.out 0).trans rfl
    have hcz65_1 : w41.cell? ⟨gb283, 1, none⟩ = some (.int .i64 t271) := (blk_cell BK283.out 1).trans rfl
    have hcz65_2 : w41.cell? ⟨gb283, 2, none⟩ = some (.int .i64 t272) := (blk_cell BK283.out 2).trans rfl
    have hcz65_3 : w41.cell? ⟨gb283, 3, none⟩ = some (.slice Ao28 t273.length co28) := (blk_cell BK283.out 3).trans rfl
    have hcz65_4 : w41.cell? ⟨gb283, 4, none⟩ = some (.slice Ao29 t276.length co29) := (blk_cell BK283.out 4).trans rfl
    have hcz65_5 : w41.cell? ⟨gb283, 5, none⟩ = some (.slice Ao30 t279.length co30) := (blk_cell BK283.out 5).trans rfl
    have hfz65_0 := blk_frozen BK283.out 0
    have hfz65_1 := blk_frozen BK283.out 1
    have hfz65_2 := blk_frozen BK283.out 2
    have hfz65_3 := blk_frozen BK283.out 3
    have hfz65_4 := blk_frozen BK283.out 4
    have hfz65_5 := blk_frozen BK283.out 5
    go_wp2_with (first | ((with_reducible refine gate_callee (f := 11) rfl ?_); refine gl_ (some 50) Try.func11 #[.agg #[.int .i64 t297, .int .i64 t298, .int .i64 t299, .slice Ao46 t300.length co46, .slice Ao47 t303.length co47, .slice Ao48 t306.length co48], .agg #[.int .i64 t270, .int .i64 t271, .int .i64 t272, .slice Ao28 t273.length co28, .slice Ao29 t276.length co29, .slice Ao30 t279.length co30]] rfl rfl rfl ?_; (with_reducible refine (laws_eqModel.calls k t297 t298 t299 _ _ t300 _ _ t303 _ _ t306 t270 t271 t272 _ _ t273 _ _ t276 _ _ t279 false _ ?side1 ?side2 ?side3 ?side4 ?side5 ?side6 ?side7 ?side8 ?side9 ?side10 ?side11 ?side12 A49.out).mono ?_); (case side1 => exact (Kd.R_reads' (Kd.R_s HO302 BK310)).2.2); (case side2 => exact (Kd.R_reads' HO302.out).2.1); (case side3 => exact (Kd.R_reads' (Kd.R_s HO305 BK310)).2.2); (case side4 => exact (Kd.R_reads' HO305.out).2.1); (case side5 => exact (Kd.R_reads' (Kd.R_s HO308 BK310)).2.2); (case side6 => exact (Kd.R_reads' HO308.out).2.1); (case side7 => exact (Kd.R_reads' (Kd.R_s HO275 BK310)).2.2); (case side8 => exact (Kd.R_reads' HO275.out).2.1); (case side9 => exact (Kd.R_reads' (Kd.R_s HO278 BK310)).2.2); (case side10 => exact (Kd.R_reads' HO278.out).2.1); (case side11 => exact (Kd.R_reads' (Kd.R_s HO281 BK310)).2.2); (case side12 => exact (Kd.R_reads' HO281.out).2.1); rintro e w66 ⟨rfl, hb⟩; refine ⟨_, rfl, ?_⟩; replace HO275 := Kd.R_sb HO275 BK310 hb; replace HO278 := Kd.R_sb HO278 BK310 hb; replace HO281 := Kd.R_sb HO281 BK310 hb; replace HO289 := Kd.R_sb HO289 BK310 hb; replace HO292 := Kd.R_sb HO292 BK310 hb; replace HO295 := Kd.R_sb HO295 BK310 hb; replace HO302 := Kd.R_sb HO302 BK310 hb; replace HO305 := Kd.R_sb HO305 BK310 hb; replace HO308 := Kd.R_sb HO308 BK310 hb; replace BK256 := kfb_ BK256 NB256_310 hb; replace BK283 := kfb_ BK283 NB283_310 hb; replace BK296 := kfb_ BK296 NB296_310 hb; replace HB := hbs_ HB hb; replace BK310 := Aside0.mk (blk_below (g := gb310) (o := .cells #[.int .i64 t297, .int .i64 t298, .int .i64 t299, .slice Ao46 t300.length co46, .slice Ao47 t303.length co47, .slice Ao48 t306.length co48] 30 (0, 0)) (kpq_ (kputs BK310 [(0, .int .i64 t297), (1, .int .i64 t298), (2, .int .i64 t299), (3, .slice Ao46 t300.length co46), (4, .slice Ao47 t303.length co47), (5, .slice Ao48 t306.length co48)])) hb); (try clear hb); (try clear hb2); (try clear hk); (try clear hi)))
    go_meet
    case rel => exact ⟨_, (true), (by first | rfl | (simp; done) | (simp [*]; done)), H', ⟨by first | omega | exact Nat.le_refl _⟩, ⟨Kd.R_pp (Kd.R_mono HO275.out (fun _ hk => ⟨hk.1.1.1.1.1.1.1.1.1.1, ⟨hk.1.1.1.1.1.1.1.1.1.2, ⟨hk.1.1.1.1.1.2, ⟨hk.1.1.1.1.2, ⟨hk.1.1.1.2, ⟨hk.1.1.2, ⟨hk.1.2, hk.2⟩⟩⟩⟩⟩⟩⟩))⟩, ⟨Kd.R_pp (Kd.R_mono HO278.out (fun _ hk => ⟨hk.1.1.1.1.1.1.1.1.1.1, ⟨hk.1.1.1.1.1.1.1.1.1.2, ⟨hk.1.1.1.1.1.2, ⟨hk.1.1.1.1.2, ⟨hk.1.1.1.2, ⟨hk.1.1.2, ⟨hk.1.2, hk.2⟩⟩⟩⟩⟩⟩⟩))⟩, ⟨Kd.R_pp (Kd.R_mono HO281.out (fun _ hk => ⟨hk.1.1.1.1.1.1.1.1.1.1, ⟨hk.1.1.1.1.1.1.1.1.1.2, ⟨hk.1.1.1.1.1.2, ⟨hk.1.1.1.1.2, ⟨hk.1.1.1.2, ⟨hk.1.1.2, ⟨hk.1.2, hk.2⟩⟩⟩⟩⟩⟩⟩))⟩, ⟨Kd.R_pp (Kd.R_mono HO289.out (fun _ hk => ⟨hk.1.1.1.1.1.2, ⟨hk.1.1.1.1.2, ⟨hk.1.1.1.2, ⟨hk.1.1.1.1.1.1.1, ⟨hk.1.1.1.1.1.1.2, ⟨hk.1.1.2, ⟨hk.1.2, hk.2⟩⟩⟩⟩⟩⟩⟩))⟩, ⟨Kd.R_pp (Kd.R_mono HO292.out (fun _ hk => ⟨hk.1.1.1.1.1.2, ⟨hk.1.1.1.1.2, ⟨hk.1.1.1.2, ⟨hk.1.1.1.1.1.1.1, ⟨hk.1.1.1.1.1.1.2, ⟨hk.1.1.2, ⟨hk.1.2, hk.2⟩⟩⟩⟩⟩⟩⟩))⟩, ⟨Kd.R_pp (Kd.R_mono HO295.out (fun _ hk => ⟨hk.1.1.1.1.1.2, ⟨hk.1.1.1.1.2, ⟨hk.1.1.1.2, ⟨hk.1.1.1.1.1.1.1, ⟨hk.1.1.1.1.1.1.2, ⟨hk.1.1.2, ⟨hk.1.2, hk.2⟩⟩⟩⟩⟩⟩⟩))⟩, ⟨Kd.R_pp (Kd.R_mono HO302.out (fun _ hk => ⟨hk.1.1.1.1.1.2, ⟨hk.1.1.1.1.2, ⟨hk.1.1.1.2, ⟨hk.1.1.2, ⟨hk.1.2, ⟨hk.2, ⟨hk.1.1.1.1.1.1.1, hk.1.1.1.1.1.1.2⟩⟩⟩⟩⟩⟩⟩))⟩, ⟨Kd.R_pp (Kd.R_mono HO305.out (fun _ hk => ⟨hk.1.1.1.1.1.2, ⟨hk.1.1.1.1.2, ⟨hk.1.1.1.2, ⟨hk.1.1.2, ⟨hk.1.2, ⟨hk.2, ⟨hk.1.1.1.1.1.1.1, hk.1.1.1.1.1.1.2⟩⟩⟩⟩⟩⟩⟩))⟩, ⟨Kd.R_pp (Kd.R_mono HO308.out (fun _ hk => ⟨hk.1.1.1.1.1.2, ⟨hk.1.1.1.1.2, ⟨hk.1.1.1.2, ⟨hk.1.1.2, ⟨hk.1.2, ⟨hk.2, ⟨hk.1.1.1.1.1.1.1, hk.1.1.1.1.1.1.2⟩⟩⟩⟩⟩⟩⟩))⟩, ⟨kp_ BK256⟩, ⟨kp_ BK283⟩, ⟨kp_ BK296⟩, ⟨kp_ BK310⟩, ⟨hb_ HB⟩⟩
  case rest =>
   clear HC15
   (try clear c1); (try clear c2); (try clear p2); (try clear c3); (try clear c4); (try clear c5); (try clear c6); (try clear c7); (try clear c7b0); (try clear c8); (try clear c9); (try clear c10); (try clear c11); (try clear c26); (try clear c34); (try clear c35); (try clear c42); (try clear c43); (try clear c44); (try clear c50); (try clear c51); (try clear c52); (try clear c53); (try clear c55); (try clear c56); (try clear c59); (try clear c60); (try clear c61); (try clear c63); (try clear c64); (try clear hcz17_0); (try clear hcz17_1); (try clear hcz17_2); (try clear hcz17_3); (try clear hcz17_4); (try clear hcz17_5); (try clear hcz19_0); (try clear hcz19_1); (try clear hcz19_2); (try clear hcz19_3); (try clear hcz19_4); (try clear hcz19_5); (try clear hcz27_0); (try clear hcz27_1); (try clear hcz27_2); (try clear hcz27_3); (try clear hcz27_4); (try clear hcz27_5); (try clear hcz31_0); (try clear hcz31_1); (try clear hcz31_2); (try clear hcz31_3); (try clear hcz31_4); (try clear hcz31_5); (try clear hcz36_0); (try clear hcz36_1); (try clear hcz36_2); (try clear hcz36_3); (try clear hcz36_4); (try clear hcz36_5); (try clear hcz45_0); (try clear hcz45_1); (try clear hcz45_2); (try clear hcz45_3); (try clear hcz45_4); (try clear hcz45_5); (try clear hfz17_0); (try clear hfz17_1); (try clear hfz17_2); (try clear hfz17_3); (try clear hfz17_4); (try clear hfz17_5); (try clear hfz19_0); (try clear hfz19_1); (try clear hfz19_2); (try clear hfz19_3); (try clear hfz19_4); (try clear hfz19_5); (try clear hfz27_0); (try clear hfz27_1); (try clear hfz27_2); (try clear hfz27_3); (try clear hfz27_4); (try clear hfz27_5); (try clear hfz31_0); (try clear hfz31_1); (try clear hfz31_2); (try clear hfz31_3); (try clear hfz31_4); (try clear hfz31_5); (try clear hfz36_0); (try clear hfz36_1); (try clear hfz36_2); (try clear hfz36_3); (try clear hfz36_4); (try clear hfz36_5); (try clear hfz45_0); (try clear hfz45_1); (try clear hfz45_2); (try clear hfz45_3); (try clear hfz45_4); (try clear hfz45_5)
   obtain ⟨kq, x56_14, rfl, HA, HJ14, HO_284003, HO_284004, HO_284005, HO_297003, HO_297004, HO_297005, HO_311003, HO_311004, HO_311005, BK256, BK283, BK296, BK310, HB⟩ := hcut
   cases kq with
   | zero => exact absurd HA.out (by simp [laws_FnExactSetBlock.j0])
   | succ kj14 =>
    have H := HA.out
    clear HA
    simp only [laws_FnExactSetBlock.j0] at H
    by_cases c67 : x56_14 = true
    ·subst c67
     have H1 : (some false) = some r := by rw [if_pos rfl] at H; exact H
     clear H
     have H := H1
     clear H1
     obtain rfl := Option.some.inj H
     go_wp2
     go_ret
     exact ⟨by first | rfl | (simp [errW_none, errW_some] <;> rfl) | (simp [*, errW_none, errW_some] <;> rfl), hb_ HB⟩
    ·replace c67 := Bool.eq_false_iff.mpr c67
     subst c67
     have H1 : ((laws_toModel.f kj14 a0_0 a0_1 a0_2 l0_3 l0_4 l0_5).bind fun bt312 => ((laws_eqModel.f kj14 t284 t285 t286 t287 t290 t293 bt312.1 bt312.2.1 bt312.2.2.1 bt312.2.2.2.1 bt312.2.2.2.2.1 bt312.2.2.2.2.2).bind fun t324 => (if t324 = true then ((laws_markModel.f kj14 t284 t285 t286 t287 t290 t293 1).bind fun bt325 => (if bt325.1 < 0 then (laws_FnExactSetBlock.j1 kj14 a1 a2 a3 a4 t282 true a0_0 a0_1 a0_2 l0_3 l0_4 l0_5 t270 t271 t272 t273 t276 t279 t297 t298 t299 t300 t303 t306) else ((laws_eqModel.f kj14 t297 t298 t299 t300 t303 t306 t270 t271 t272 t273 t276 t279).bind fun t329 => (if t329 = true then (laws_FnExactSetBlock.j1 kj14 a1 a2 a3 a4 t282 (t309 != t282) a0_0 a0_1 a0_2 l0_3 l0_4 l0_5 t270 t271 t272 t273 t276 t279 t297 t298 t299 t300 t303 t306) else (laws_FnExactSetBlock.j1 kj14 a1 a2 a3 a4 t282 true a0_0 a0_1 a0_2 l0_3 l0_4 l0_5 t270 t271 t272 t273 t276 t279 t297 t298 t299 t300 t303 t306))))) else (some false)))) = some r := by rw [if_neg (show ¬ (false = true) by decide)] at H; exact H
     clear H
     have H := H1
     clear H1
     replace H := Option.bind_eq_some_iff.mp H
     obtain ⟨⟨t312, t313, t314, t315, t318, t321⟩, A680, H⟩ := H
     replace H : ((laws_eqModel.f kj14 t284 t285 t286 t287 t290 t293 t312 t313 t314 t315 t318 t321).bind fun t324 => (if t324 = true then ((laws_markModel.f kj14 t284 t285 t286 t287 t290 t293 1).bind fun bt325 => (if bt325.1 < 0 then (laws_FnExactSetBlock.j1 kj14 a1 a2 a3 a4 t282 true a0_0 a0_1 a0_2 l0_3 l0_4 l0_5 t270 t271 t272 t273 t276 t279 t297 t298 t299 t300 t303 t306) else ((laws_eqModel.f kj14 t297 t298 t299 t300 t303 t306 t270 t271 t272 t273 t276 t279).bind fun t329 => (if t329 = true then (laws_FnExactSetBlock.j1 kj14 a1 a2 a3 a4 t282 (t309 != t282) a0_0 a0_1 a0_2 l0_3 l0_4 l0_5 t270 t271 t272 t273 t276 t279 t297 t298 t299 t300 t303 t306) else (laws_FnExactSetBlock.j1 kj14 a1 a2 a3 a4 t282 true a0_0 a0_1 a0_2 l0_3 l0_4 l0_5 t270 t271 t272 t273 t276 t279 t297 t298 t299 t300 t303 t306))))) else (some false))) = some r := H
     have A68 := Aside0.mk A680
     clear A680
     replace H := Option.bind_eq_some_iff.mp H
     obtain ⟨t324, A690, H⟩ := H
     replace H : (if t324 = true then ((laws_markModel.f kj14 t284 t285 t286 t287 t290 t293 1).bind fun bt325 => (if bt325.1 < 0 then (laws_FnExactSetBlock.j1 kj14 a1 a2 a3 a4 t282 true a0_0 a0_1 a0_2 l0_3 l0_4 l0_5 t270 t271 t272 t273 t276 t279 t297 t298 t299 t300 t303 t306) else ((laws_eqModel.f kj14 t297 t298 t299 t300 t303 t306 t270 t271 t272 t273 t276 t279).bind fun t329 => (if t329 = true then (laws_FnExactSetBlock.j1 kj14 a1 a2 a3 a4 t282 (t309 != t282) a0_0 a0_1 a0_2 l0_3 l0_4 l0_5 t270 t271 t272 t273 t276 t279 t297 t298 t299 t300 t303 t306) else (laws_FnExactSetBlock.j1 kj14 a1 a2 a3 a4 t282 true a0_0 a0_1 a0_2 l0_3 l0_4 l0_5 t270 t271 t272 t273 t276 t279 t297 t298 t299 t300 t303 t306))))) else (some false)) = some r := H
     have A69 := Aside0.mk A690
     clear A690
     by_cases c70 : t324 = true
     ·subst c70
      have H1 : ((laws_markModel.f kj14 t284 t285 t286 t287 t290 t293 1).bind fun bt325 => (if bt325.1 < 0 then (laws_FnExactSetBlock.j1 kj14 a1 a2 a3 a4 t282 true a0_0 a0_1 a0_2 l0_3 l0_4 l0_5 t270 t271 t272 t273 t276 t279 t297 t298 t299 t300 t303 t306) else ((laws_eqModel.f kj14 t297 t298 t299 t300 t303 t306 t270 t271 t272 t273 t276 t279).bind fun t329 => (if t329 = true then (laws_FnExactSetBlock.j1 kj14 a1 a2 a3 a4 t282 (t309 != t282) a0_0 a0_1 a0_2 l0_3 l0_4 l0_5 t270 t271 t272 t273 t276 t279 t297 t298 t299 t300 t303 t306) else (laws_FnExactSetBlock.j1 kj14 a1 a2 a3 a4 t282 true a0_0 a0_1 a0_2 l0_3 l0_4 l0_5 t270 t271 t272 t273 t276 t279 t297 t298 t299 t300 t303 t306))))) = some r := by rw [if_pos rfl] at H; exact H
      clear H
      have H := H1
      clear H1
      replace H := Option.bind_eq_some_iff.mp H
      obtain ⟨⟨t325, t326, t327, t328⟩, A710, H⟩ := H
      replace H : (if t325 < 0 then (laws_FnExactSetBlock.j1 kj14 a1 a2 a3 a4 t282 true a0_0 a0_1 a0_2 l0_3 l0_4 l0_5 t270 t271 t272 t273 t276 t279 t297 t298 t299 t300 t303 t306) else ((laws_eqModel.f kj14 t297 t298 t299 t300 t303 t306 t270 t271 t272 t273 t276 t279).bind fun t329 => (if t329 = true then (laws_FnExactSetBlock.j1 kj14 a1 a2 a3 a4 t282 (t309 != t282) a0_0 a0_1 a0_2 l0_3 l0_4 l0_5 t270 t271 t272 t273 t276 t279 t297 t298 t299 t300 t303 t306) else (laws_FnExactSetBlock.j1 kj14 a1 a2 a3 a4 t282 true a0_0 a0_1 a0_2 l0_3 l0_4 l0_5 t270 t271 t272 t273 t276 t279 t297 t298 t299 t300 t303 t306)))) = some r := H
      have A71 := Aside0.mk A710
      clear A710
      have HC72 := Aside0.mk H
      clear H
      try go_wp2
      have n0_ := Aside0.mk (Kd.R_drew HO_284003.out)
      have n1_ := Aside0.mk (Kd.R_drew HO_284004.out)
      have n2_ := Aside0.mk (Kd.R_drew HO_284005.out)
      have n3_ := Aside0.mk (Kd.R_drew HO_297003.out)
      have n4_ := Aside0.mk (Kd.R_drew HO_297004.out)
      have n5_ := Aside0.mk (Kd.R_drew HO_297005.out)
      have n6_ := Aside0.mk (Kd.R_drew HO_311003.out)
      have n7_ := Aside0.mk (Kd.R_drew HO_311004.out)
      have n8_ := Aside0.mk (Kd.R_drew HO_311005.out)
      have n9_ := Aside0.mk (blk_drew BK256.out)
      have n10_ := Aside0.mk (blk_drew BK283.out)
      have n11_ := Aside0.mk (blk_drew BK296.out)
      have n12_ := Aside0.mk (blk_drew BK310.out)
      have n13_ := Aside0.mk (below_drew1 HB.out)
      clear HO_284003
      clear HO_284004
      clear HO_284005
      clear HO_297003
      clear HO_297004
      clear HO_297005
      clear HO_311003
      clear HO_311004
      clear HO_311005
      clear BK256
      clear BK283
      clear BK296
      clear BK310
      clear HB
      have HO_284003 := n0_
      have HO_284004 := n1_
      have HO_284005 := n2_
      have HO_297003 := n3_
      have HO_297004 := n4_
      have HO_297005 := n5_
      have HO_311003 := n6_
      have HO_311004 := n7_
      have HO_311005 := n8_
      have BK256 := n9_
      have BK283 := n10_
      have BK296 := n11_
      have BK310 := n12_
      have HB := n13_
      clear n0_ n1_ n2_ n3_ n4_ n5_ n6_ n7_ n8_ n9_ n10_ n11_ n12_ n13_
      refine start_ (n := 5) (S := fun w' => w'.cell? ⟨gb296, 0, none⟩ = some (.int .i64 t284) ∧ w'.cell? ⟨gb296, 1, none⟩ = some (.int .i64 t285) ∧ w'.cell? ⟨gb296, 2, none⟩ = some (.int .i64 t286) ∧ w'.cell? ⟨gb296, 3, none⟩ = some (.slice Ao37 t287.length co37) ∧ w'.cell? ⟨gb296, 4, none⟩ = some (.slice Ao38 t290.length co38) ∧ w'.cell? ⟨gb296, 5, none⟩ = some (.slice Ao39 t293.length co39) ∧ w'.cell? ⟨gb256, 0, none⟩ = some (.int .i64 a0_0) ∧ w'.cell? ⟨gb256, 1, none⟩ = some (.int .i64 a0_1) ∧ w'.cell? ⟨gb256, 2, none⟩ = some (.int .i64 a0_2) ∧ w'.cell? ⟨gb256, 3, none⟩ = some (.slice A0_3 l0_3.length c0_3) ∧ w'.cell? ⟨gb256, 4, none⟩ = some (.slice A0_4 l0_4.length c0_4) ∧ w'.cell? ⟨gb256, 5, none⟩ = some (.slice A0_5 l0_5.length c0_5)) (ds := []) #[false, false, false, false, false] (by kernel_rfl) rfl rfl ⟨(blk_cell BK296.out 0).trans rfl, (blk_cell BK296.out 1).trans rfl, (blk_cell BK296.out 2).trans rfl, (blk_cell BK296.out 3).trans rfl, (blk_cell BK296.out 4).trans rfl, (blk_cell BK296.out 5).trans rfl, (blk_cell BK256.out 0).trans rfl, (blk_cell BK256.out 1).trans rfl, (blk_cell BK256.out 2).trans rfl, (blk_cell BK256.out 3).trans rfl, (blk_cell BK256.out 4).trans rfl, (blk_cell BK256.out 5).trans rfl⟩ (fun hHeld => ?_)
      generalize wc.drew = w73 at HO_284003 HO_284004 HO_284005 HO_297003 HO_297004 HO_297005 HO_311003 HO_311004 HO_311005 BK256 BK283 BK296 BK310 HB hHeld ⊢
      refine take_ (i := 0) (N := some 57) (v := ?_) (a' := ?_) #[true, false, false, false, false] rfl rfl (by kernel_rfl) (fun _ _ _ h => h) (Or.inl ⟨by rfl, ?_⟩) hHeld ?_ ?_
      rotate_left
      ·rintro w' ⟨s0, s1, s2, s3, s4, s5, s6, s7, s8, s9, s10, s11⟩
       go_simp
       with_reducible rfl
      rotate_left
      ·simp only [Act.put, List.setIfInBounds_toArray, List.set_cons_zero, List.set_cons_succ, i64_w, i32_w]
       rfl
      refine take_ (i := 1) (N := some 58) (v := ?_) (a' := ?_) #[true, true, false, false, false] rfl rfl (by kernel_rfl) (fun _ _ _ h => h) (Or.inl ⟨by rfl, ?_⟩) hHeld ?_ ?_
      rotate_left
      ·rintro w' ⟨s0, s1, s2, s3, s4, s5, s6, s7, s8, s9, s10, s11⟩
       go_simp
       with_reducible rfl
      rotate_left
      ·simp only [Act.put, List.setIfInBounds_toArray, List.set_cons_zero, List.set_cons_succ, i64_w, i32_w]
       rfl
      refine one_ (i := 2) (N := some 59) #[true, true, true, false, false] rfl rfl (by kernel_rfl) (by decide) (fun K hK => ?_)
      refine goes_ Try.func9 (by kernel_rfl) rfl #[.agg #[.int .i64 a0_0, .int .i64 a0_1, .int .i64 a0_2, .slice A0_3 l0_3.length c0_3, .slice A0_4 l0_4.length c0_4, .slice A0_5 l0_5.length c0_5]] (by rfl) rfl rfl (by (try simp only [List.map_toArray, List.map_cons, List.map_nil]); first | done | rfl | (simp only [List.length_drop, List.length_take]; rfl)) ?_
      with_reducible refine (laws_toModel.calls kj14 a0_0 a0_1 a0_2 _ _ l0_3 _ _ l0_4 _ _ l0_5 t312 t313 t314 t315 t318 t321 _ ?side1 ?side2 ?side3 ?side4 ?side5 ?side6 A68.out).mono ?_
      (case side1 => exact Kd.C_w HR0_3 HB)
      (case side2 => exact HC0_3.out)
      (case side3 => exact Kd.C_w HR0_4 HB)
      (case side4 => exact HC0_4.out)
      (case side5 => exact Kd.C_w HR0_5 HB)
      (case side6 => exact HC0_5.out)
      rintro e w74 ⟨v316, v319, v322, rfl, ho0, ho1, ho2, hb⟩
      refine ⟨_, rfl, ?_⟩
      have n0_ := Aside0.mk (Kd.R_mono (Kd.R_told (Kd.R_told (Kd.R_told (Kd.R_old (Kd.R_p HO_284003) hb) (Kd.R_base ho0)) (Kd.R_base ho1)) (Kd.R_base ho2)) (fun _ h_ => h_.1))
      have n1_ := Aside0.mk (Kd.R_mono (Kd.R_told (Kd.R_told (Kd.R_told (Kd.R_old (Kd.R_p HO_284004) hb) (Kd.R_base ho0)) (Kd.R_base ho1)) (Kd.R_base ho2)) (fun _ h_ => h_.1))
      have n2_ := Aside0.mk (Kd.R_mono (Kd.R_told (Kd.R_told (Kd.R_told (Kd.R_old (Kd.R_p HO_284005) hb) (Kd.R_base ho0)) (Kd.R_base ho1)) (Kd.R_base ho2)) (fun _ h_ => h_.1))
      have n3_ := Aside0.mk (Kd.R_mono (Kd.R_told (Kd.R_told (Kd.R_told (Kd.R_old (Kd.R_p HO_297003) hb) (Kd.R_base ho0)) (Kd.R_base ho1)) (Kd.R_base ho2)) (fun _ h_ => h_.1))
      have n4_ := Aside0.mk (Kd.R_mono (Kd.R_told (Kd.R_told (Kd.R_told (Kd.R_old (Kd.R_p HO_297004) hb) (Kd.R_base ho0)) (Kd.R_base ho1)) (Kd.R_base ho2)) (fun _ h_ => h_.1))
      have n5_ := Aside0.mk (Kd.R_mono (Kd.R_told (Kd.R_told (Kd.R_told (Kd.R_old (Kd.R_p HO_297005) hb) (Kd.R_base ho0)) (Kd.R_base ho1)) (Kd.R_base ho2)) (fun _ h_ => h_.1))
      have n6_ := Aside0.mk (Kd.R_mono (Kd.R_told (Kd.R_told (Kd.R_told (Kd.R_old (Kd.R_p HO_311003) hb) (Kd.R_base ho0)) (Kd.R_base ho1)) (Kd.R_base ho2)) (fun _ h_ => h_.1))
      have n7_ := Aside0.mk (Kd.R_mono (Kd.R_told (Kd.R_told (Kd.R_told (Kd.R_old (Kd.R_p HO_311004) hb) (Kd.R_base ho0)) (Kd.R_base ho1)) (Kd.R_base ho2)) (fun _ h_ => h_.1))
      have n8_ := Aside0.mk (Kd.R_mono (Kd.R_told (Kd.R_told (Kd.R_told (Kd.R_old (Kd.R_p HO_311005) hb) (Kd.R_base ho0)) (Kd.R_base ho1)) (Kd.R_base ho2)) (fun _ h_ => h_.1))
      have n9_ := Aside0.mk (Kd.R_lower (Kd.R_new' (Kd.R_new' (Kd.R_new' (Kd.R_new' (Kd.R_new' (Kd.R_new' (Kd.R_new' (Kd.R_new' (Kd.R_new' ho0 (Kd.R_lt (Kd.R_p HO_284003))) (Kd.R_lt (Kd.R_p HO_284004))) (Kd.R_lt (Kd.R_p HO_284005))) (Kd.R_lt (Kd.R_p HO_297003))) (Kd.R_lt (Kd.R_p HO_297004))) (Kd.R_lt (Kd.R_p HO_297005))) (Kd.R_lt (Kd.R_p HO_311003))) (Kd.R_lt (Kd.R_p HO_311004))) (Kd.R_lt (Kd.R_p HO_311005))) (below_size (hb_ HB)))
      have n10_ := Aside0.mk (Kd.R_lower (Kd.R_new' (Kd.R_new' (Kd.R_new' (Kd.R_new' (Kd.R_new' (Kd.R_new' (Kd.R_new' (Kd.R_new' (Kd.R_new' ho1 (Kd.R_lt (Kd.R_p HO_284003))) (Kd.R_lt (Kd.R_p HO_284004))) (Kd.R_lt (Kd.R_p HO_284005))) (Kd.R_lt (Kd.R_p HO_297003))) (Kd.R_lt (Kd.R_p HO_297004))) (Kd.R_lt (Kd.R_p HO_297005))) (Kd.R_lt (Kd.R_p HO_311003))) (Kd.R_lt (Kd.R_p HO_311004))) (Kd.R_lt (Kd.R_p HO_311005))) (below_size (hb_ HB)))
      have n11_ := Aside0.mk (Kd.R_lower (Kd.R_new' (Kd.R_new' (Kd.R_new' (Kd.R_new' (Kd.R_new' (Kd.R_new' (Kd.R_new' (Kd.R_new' (Kd.R_new' ho2 (Kd.R_lt (Kd.R_p HO_284003))) (Kd.R_lt (Kd.R_p HO_284004))) (Kd.R_lt (Kd.R_p HO_284005))) (Kd.R_lt (Kd.R_p HO_297003))) (Kd.R_lt (Kd.R_p HO_297004))) (Kd.R_lt (Kd.R_p HO_297005))) (Kd.R_lt (Kd.R_p HO_311003))) (Kd.R_lt (Kd.R_p HO_311004))) (Kd.R_lt (Kd.R_p HO_311005))) (below_size (hb_ HB)))
      have n12_ := Aside0.mk (blk_below (kp_ BK256) hb)
      have n13_ := Aside0.mk (blk_below (kp_ BK283) hb)
      have n14_ := Aside0.mk (blk_below (kp_ BK296) hb)
      have n15_ := Aside0.mk (blk_below (kp_ BK310) hb)
      have n16_ := Aside0.mk (below_step (hb_ HB) hb)
      clear HO_284003
      clear HO_284004
      clear HO_284005
      clear HO_297003
      clear HO_297004
      clear HO_297005
      clear HO_311003
      clear HO_311004
      clear HO_311005
      clear BK256
      clear BK283
      clear BK296
      clear BK310
      clear HB
      have HO_284003 := n0_
      have HO_284004 := n1_
      have HO_284005 := n2_
      have HO_297003 := n3_
      have HO_297004 := n4_
      have HO_297005 := n5_
      have HO_311003 := n6_
      have HO_311004 := n7_
      have HO_311005 := n8_
      have HO317 := n9_
      have HO320 := n10_
      have HO323 := n11_
      have BK256 := n12_
      have BK283 := n13_
      have BK296 := n14_
      have BK310 := n15_
      have HB := n16_
      clear n0_ n1_ n2_ n3_ n4_ n5_ n6_ n7_ n8_ n9_ n10_ n11_ n12_ n13_ n14_ n15_ n16_
      (try clear hb)
      (try clear hb2)
      (try clear hk)
      (try clear hi)
      (try clear ho0)
      (try clear ho1)
      (try clear ho2)
      obtain ⟨Ao75, co75, eo75⟩ := Kd.R_slice HO317.out
      (first | subst eo75 | (injection eo75 with f1_ f2_ f3_; have f4_ := f1_.symm; have f5_ := f3_.symm; clear f1_ f2_ f3_; subst f4_; subst f5_))
      obtain ⟨Ao76, co76, eo76⟩ := Kd.R_slice HO320.out
      (first | subst eo76 | (injection eo76 with f1_ f2_ f3_; have f4_ := f1_.symm; have f5_ := f3_.symm; clear f1_ f2_ f3_; subst f4_; subst f5_))
      obtain ⟨Ao77, co77, eo77⟩ := Kd.R_slice HO323.out
      (first | subst eo77 | (injection eo77 with f1_ f2_ f3_; have f4_ := f1_.symm; have f5_ := f3_.symm; clear f1_ f2_ f3_; subst f4_; subst f5_))
      refine hK.out _ _ ⟨(blk_cell BK296.out 0).trans rfl, (blk_cell BK296.out 1).trans rfl, (blk_cell BK296.out 2).trans rfl, (blk_cell BK296.out 3).trans rfl, (blk_cell BK296.out 4).trans rfl, (blk_cell BK296.out 5).trans rfl, (blk_cell BK256.out 0).trans rfl, (blk_cell BK256.out 1).trans rfl, (blk_cell BK256.out 2).trans rfl, (blk_cell BK256.out 3).trans rfl, (blk_cell BK256.out 4).trans rfl, (blk_cell BK256.out 5).trans rfl⟩ (fun hHeld => ?_)
      clear hK K
      refine norm_ (a' := ?_) ?_ ?_
      rotate_left
      ·show Act.put _ (some 59) _ = _
       simp only [Act.put, List.setIfInBounds_toArray, List.set_cons_zero, List.set_cons_succ, i64_w, i32_w]
       rfl
      refine one_ (i := 3) (N := some 60) #[true, true, true, true, false] rfl rfl (by kernel_rfl) (by decide) (fun K hK => ?_)
      refine goes_ Try.func11 (by kernel_rfl) rfl #[.agg #[.int .i64 t284, .int .i64 t285, .int .i64 t286, .slice Ao37 t287.length co37, .slice Ao38 t290.length co38, .slice Ao39 t293.length co39], .agg #[.int .i64 t312, .int .i64 t313, .int .i64 t314, .slice Ao75 t315.length co75, .slice Ao76 t318.length co76, .slice Ao77 t321.length co77]] (by rfl) rfl rfl (by (try simp only [List.map_toArray, List.map_cons, List.map_nil]); first | done | rfl | (simp only [List.length_drop, List.length_take]; rfl)) ?_
      with_reducible refine (laws_eqModel.calls kj14 t284 t285 t286 _ _ t287 _ _ t290 _ _ t293 t312 t313 t314 _ _ t315 _ _ t318 _ _ t321 true _ ?side1 ?side2 ?side3 ?side4 ?side5 ?side6 ?side7 ?side8 ?side9 ?side10 ?side11 ?side12 A69.out).mono ?_
      (case side1 => exact Kd.C_o HO_297003)
      (case side2 => exact (Kd.R_reads' HO_297003.out).2.1)
      (case side3 => exact Kd.C_o HO_297004)
      (case side4 => exact (Kd.R_reads' HO_297004.out).2.1)
      (case side5 => exact Kd.C_o HO_297005)
      (case side6 => exact (Kd.R_reads' HO_297005.out).2.1)
      (case side7 => exact Kd.C_o HO317)
      (case side8 => exact (Kd.R_reads' HO317.out).2.1)
      (case side9 => exact Kd.C_o HO320)
      (case side10 => exact (Kd.R_reads' HO320.out).2.1)
      (case side11 => exact Kd.C_o HO323)
      (case side12 => exact (Kd.R_reads' HO323.out).2.1)
      rintro e w78 ⟨rfl, hb⟩
      refine ⟨_, rfl, ?_⟩
      have n0_ := Aside0.mk (Kd.R_below (Kd.R_p HO_284003) hb)
      have n1_ := Aside0.mk (Kd.R_below (Kd.R_p HO_284004) hb)
      have n2_ := Aside0.mk (Kd.R_below (Kd.R_p HO_284005) hb)
      have n3_ := Aside0.mk (Kd.R_below (Kd.R_p HO_297003) hb)
      have n4_ := Aside0.mk (Kd.R_below (Kd.R_p HO_297004) hb)
      have n5_ := Aside0.mk (Kd.R_below (Kd.R_p HO_297005) hb)
      have n6_ := Aside0.mk (Kd.R_below (Kd.R_p HO_311003) hb)
      have n7_ := Aside0.mk (Kd.R_below (Kd.R_p HO_311004) hb)
      have n8_ := Aside0.mk (Kd.R_below (Kd.R_p HO_311005) hb)
      have n9_ := Aside0.mk (Kd.R_below (Kd.R_p HO317) hb)
      have n10_ := Aside0.mk (Kd.R_below (Kd.R_p HO320) hb)
      have n11_ := Aside0.mk (Kd.R_below (Kd.R_p HO323) hb)
      have n12_ := Aside0.mk (blk_below (kp_ BK256) hb)
      have n13_ := Aside0.mk (blk_below (kp_ BK283) hb)
      have n14_ := Aside0.mk (blk_below (kp_ BK296) hb)
      have n15_ := Aside0.mk (blk_below (kp_ BK310) hb)
      have n16_ := Aside0.mk (below_step (hb_ HB) hb)
      clear HO_284003
      clear HO_284004
      clear HO_284005
      clear HO_297003
      clear HO_297004
      clear HO_297005
      clear HO_311003
      clear HO_311004
      clear HO_311005
      clear HO317
      clear HO320
      clear HO323
      clear BK256
      clear BK283
      clear BK296
      clear BK310
      clear HB
      have HO_284003 := n0_
      have HO_284004 := n1_
      have HO_284005 := n2_
      have HO_297003 := n3_
      have HO_297004 := n4_
      have HO_297005 := n5_
      have HO_311003 := n6_
      have HO_311004 := n7_
      have HO_311005 := n8_
      have HO317 := n9_
      have HO320 := n10_
      have HO323 := n11_
      have BK256 := n12_
      have BK283 := n13_
      have BK296 := n14_
      have BK310 := n15_
      have HB := n16_
      clear n0_ n1_ n2_ n3_ n4_ n5_ n6_ n7_ n8_ n9_ n10_ n11_ n12_ n13_ n14_ n15_ n16_
      (try clear hb)
      (try clear hb2)
      (try clear hk)
      (try clear hi)
      refine hK.out _ _ ⟨(blk_cell BK296.out 0).trans rfl, (blk_cell BK296.out 1).trans rfl, (blk_cell BK296.out 2).trans rfl, (blk_cell BK296.out 3).trans rfl, (blk_cell BK296.out 4).trans rfl, (blk_cell BK296.out 5).trans rfl, (blk_cell BK256.out 0).trans rfl, (blk_cell BK256.out 1).trans rfl, (blk_cell BK256.out 2).trans rfl, (blk_cell BK256.out 3).trans rfl, (blk_cell BK256.out 4).trans rfl, (blk_cell BK256.out 5).trans rfl⟩ (fun hHeld => ?_)
      clear hK K
      refine norm_ (a' := ?_) ?_ ?_
      rotate_left
      ·show Act.put _ (some 60) _ = _
       simp only [Act.put, List.setIfInBounds_toArray, List.set_cons_zero, List.set_cons_succ, i64_w, i32_w]
       rfl
      refine pure_ (i := 4) (N := some 61) (v := ?_) (a' := ?_) #[true, true, true, true, true] rfl rfl (by kernel_rfl) (fun _ _ _ h => h) (Or.inl ⟨by rfl, ?_⟩) ?_ ?_
      rotate_left
      ·intro w'
       go_simp
       with_reducible rfl
      rotate_left
      ·simp only [Act.put, List.setIfInBounds_toArray, List.set_cons_zero, List.set_cons_succ, i64_w, i32_w]
       rfl
      refine done_ (by kernel_rfl) ?_
      have hnb79 := NB296_256.out
      have hnc79 := NB256_296.out
      have hnb80 := NB296_283.out
      have hnc80 := NB283_296.out
      have hnb81 := NB296_310.out
      have hnc81 := NB310_296.out
      have hcz82_0 : w78.cell? ⟨gb296, 0, none⟩ = some (.int .i64 t284) := (blk_cell BK296.out 0).trans rfl
      have hcz82_1 : w78.cell? ⟨gb296, 1, none⟩ = some (.int .i64 t285) := (blk_cell BK296.out 1).trans rfl
      have hcz82_2 : w78.cell? ⟨gb296, 2, none⟩ = some (.int .i64 t286) := (blk_cell BK296.out 2).trans rfl
      have hcz82_3 : w78.cell? ⟨gb296, 3, none⟩ = some (.slice Ao37 t287.length co37) := (blk_cell BK296.out 3).trans rfl
      have hcz82_4 : w78.cell? ⟨gb296, 4, none⟩ = some (.slice Ao38 t290.length co38) := (blk_cell BK296.out 4).trans rfl
      have hcz82_5 : w78.cell? ⟨gb296, 5, none⟩ = some (.slice Ao39 t293.length co39) := (blk_cell BK296.out 5).trans rfl
      have hfz82_0 := blk_frozen BK296.out 0
      have hfz82_1 := blk_frozen BK296.out 1
      have hfz82_2 := blk_frozen BK296.out 2
      have hfz82_3 := blk_frozen BK296.out 3
      have hfz82_4 := blk_frozen BK296.out 4
      have hfz82_5 := blk_frozen BK296.out 5
      (try clear HO317); (try clear HO320); (try clear HO323)
      go_upto_region 14 with (first | ((with_reducible refine gate_callee (f := 12) rfl ?_); refine gl_ (some 64) Try.func12 #[.agg #[.int .i64 t284, .int .i64 t285, .int .i64 t286, .slice Ao37 t287.length co37, .slice Ao38 t290.length co38, .slice Ao39 t293.length co39], .int .i64 1] rfl rfl rfl ?_; (with_reducible refine (laws_markModel.calls kj14 t284 t285 t286 (fun k_ => some k_ = (.slice Ao37 t287.length co37 : Value).ownBlock) (.slice Ao37 t287.length co37) t287 (fun k_ => some k_ = (.slice Ao38 t290.length co38 : Value).ownBlock) (.slice Ao38 t290.length co38) t290 (fun k_ => some k_ = (.slice Ao39 t293.length co39 : Value).ownBlock) (.slice Ao39 t293.length co39) t293 1 t325 t326 t327 t328 w _ ?side1 ?side2 ?side3 ?side4 ?side5 ?side6 ?side7 ?side8 ?side9 ?side10 A71.out).mono ?_); (case side1 => repeat (first | (with_reducible first | exact HB.out | apply below_alloc | apply pw_below_drewN | apply below_drew1 | refine below_set ?_ GE256.out | refine below_set ?_ GE283.out | refine below_set ?_ GE296.out | refine below_set ?_ GE310.out) | exact HB.out)); (case side2 => exact Kd.R_tight rfl HO_297003.out); (case side3 => exact fun k_ e_ => (HO_297003.out.1 k_ e_.symm).1.1.1.2.2.2.1); (case side4 => exact fun k_ e_ => (HO_297003.out.1 k_ e_.symm).1.1.1.2.2.2.2.1); (case side5 => exact Kd.R_tight rfl HO_297004.out); (case side6 => exact fun k_ e_ => (HO_297004.out.1 k_ e_.symm).1.1.1.2.2.2.1); (case side7 => exact fun k_ e_ => (HO_297004.out.1 k_ e_.symm).1.1.1.2.2.2.2.1); (case side8 => exact Kd.R_tight rfl HO_297005.out); (case side9 => exact fun k_ e_ => (HO_297005.out.1 k_ e_.symm).1.1.1.2.2.2.1); (case side10 => exact fun k_ e_ => (HO_297005.out.1 k_ e_.symm).1.1.1.2.2.2.2.1); rintro e w83 ⟨rfl, hy0, hy1, hy2, hb, hkp⟩; refine ⟨_, rfl, ?_⟩; replace HO_284003 := Aside0.mk (Kd.R_mono (ok' := fun k_ => some k_ ≠ (.slice Ao29 t276.length co29 : Value).ownBlock ∧ some k_ ≠ (.slice Ao30 t279.length co30 : Value).ownBlock ∧ some k_ ≠ (.slice Ao37 t287.length co37 : Value).ownBlock ∧ some k_ ≠ (.slice Ao38 t290.length co38 : Value).ownBlock ∧ some k_ ≠ (.slice Ao39 t293.length co39 : Value).ownBlock ∧ some k_ ≠ (.slice Ao46 t300.length co46 : Value).ownBlock ∧ some k_ ≠ (.slice Ao47 t303.length co47 : Value).ownBlock ∧ some k_ ≠ (.slice Ao48 t306.length co48 : Value).ownBlock) (Kd.R_keptB (HO_284003.out) hkp (fun k_ hk_ hs_ => Or.elim hs_ (fun e_ => (hk_.1.1.1.2.2.1) e_) (fun e_ => Or.elim e_ (fun e_ => (hk_.1.1.1.2.2.2.1) e_) (fun e_ => (hk_.1.1.1.2.2.2.2.1) e_)))) (fun k_ hk_ => ⟨hk_.1.1.1.1.1, hk_.1.1.1.1.2.1, hk_.1.1.1.1.2.2.1, hk_.1.1.1.1.2.2.2.1, hk_.1.1.1.1.2.2.2.2.1, hk_.1.1.1.1.2.2.2.2.2.1, hk_.1.1.1.1.2.2.2.2.2.2.1, hk_.1.1.1.1.2.2.2.2.2.2.2⟩)); replace HO_284004 := Aside0.mk (Kd.R_mono (ok' := fun k_ => some k_ ≠ (.slice Ao28 t273.length co28 : Value).ownBlock ∧ some k_ ≠ (.slice Ao30 t279.length co30 : Value).ownBlock ∧ some k_ ≠ (.slice Ao37 t287.length co37 : Value).ownBlock ∧ some k_ ≠ (.slice Ao38 t290.length co38 : Value).ownBlock ∧ some k_ ≠ (.slice Ao39 t293.length co39 : Value).ownBlock ∧ some k_ ≠ (.slice Ao46 t300.length co46 : Value).ownBlock ∧ some k_ ≠ (.slice Ao47 t303.length co47 : Value).ownBlock ∧ some k_ ≠ (.slice Ao48 t306.length co48 : Value).ownBlock) (Kd.R_keptB (HO_284004.out) hkp (fun k_ hk_ hs_ => Or.elim hs_ (fun e_ => (hk_.1.1.1.2.2.1) e_) (fun e_ => Or.elim e_ (fun e_ => (hk_.1.1.1.2.2.2.1) e_) (fun e_ => (hk_.1.1.1.2.2.2.2.1) e_)))) (fun k_ hk_ => ⟨hk_.1.1.1.1.1, hk_.1.1.1.1.2.1, hk_.1.1.1.1.2.2.1, hk_.1.1.1.1.2.2.2.1, hk_.1.1.1.1.2.2.2.2.1, hk_.1.1.1.1.2.2.2.2.2.1, hk_.1.1.1.1.2.2.2.2.2.2.1, hk_.1.1.1.1.2.2.2.2.2.2.2⟩)); replace HO_284005 := Aside0.mk (Kd.R_mono (ok' := fun k_ => some k_ ≠ (.slice Ao28 t273.length co28 : Value).ownBlock ∧ some k_ ≠ (.slice Ao29 t276.length co29 : Value).ownBlock ∧ some k_ ≠ (.slice Ao37 t287.length co37 : Value).ownBlock ∧ some k_ ≠ (.slice Ao38 t290.length co38 : Value).ownBlock ∧ some k_ ≠ (.slice Ao39 t293.length co39 : Value).ownBlock ∧ some k_ ≠ (.slice Ao46 t300.length co46 : Value).ownBlock ∧ some k_ ≠ (.slice Ao47 t303.length co47 : Value).ownBlock ∧ some k_ ≠ (.slice Ao48 t306.length co48 : Value).ownBlock) (Kd.R_keptB (HO_284005.out) hkp (fun k_ hk_ hs_ => Or.elim hs_ (fun e_ => (hk_.1.1.1.2.2.1) e_) (fun e_ => Or.elim e_ (fun e_ => (hk_.1.1.1.2.2.2.1) e_) (fun e_ => (hk_.1.1.1.2.2.2.2.1) e_)))) (fun k_ hk_ => ⟨hk_.1.1.1.1.1, hk_.1.1.1.1.2.1, hk_.1.1.1.1.2.2.1, hk_.1.1.1.1.2.2.2.1, hk_.1.1.1.1.2.2.2.2.1, hk_.1.1.1.1.2.2.2.2.2.1, hk_.1.1.1.1.2.2.2.2.2.2.1, hk_.1.1.1.1.2.2.2.2.2.2.2⟩)); replace HO_311003 := Aside0.mk (Kd.R_mono (ok' := fun k_ => some k_ ≠ (.slice Ao28 t273.length co28 : Value).ownBlock ∧ some k_ ≠ (.slice Ao29 t276.length co29 : Value).ownBlock ∧ some k_ ≠ (.slice Ao30 t279.length co30 : Value).ownBlock ∧ some k_ ≠ (.slice Ao37 t287.length co37 : Value).ownBlock ∧ some k_ ≠ (.slice Ao38 t290.length co38 : Value).ownBlock ∧ some k_ ≠ (.slice Ao39 t293.length co39 : Value).ownBlock ∧ some k_ ≠ (.slice Ao47 t303.length co47 : Value).ownBlock ∧ some k_ ≠ (.slice Ao48 t306.length co48 : Value).ownBlock) (Kd.R_keptB (HO_311003.out) hkp (fun k_ hk_ hs_ => Or.elim hs_ (fun e_ => (hk_.1.1.1.2.2.2.1) e_) (fun e_ => Or.elim e_ (fun e_ => (hk_.1.1.1.2.2.2.2.1) e_) (fun e_ => (hk_.1.1.1.2.2.2.2.2.1) e_)))) (fun k_ hk_ => ⟨hk_.1.1.1.1.1, hk_.1.1.1.1.2.1, hk_.1.1.1.1.2.2.1, hk_.1.1.1.1.2.2.2.1, hk_.1.1.1.1.2.2.2.2.1, hk_.1.1.1.1.2.2.2.2.2.1, hk_.1.1.1.1.2.2.2.2.2.2.1, hk_.1.1.1.1.2.2.2.2.2.2.2⟩)); replace HO_311004 := Aside0.mk (Kd.R_mono (ok' := fun k_ => some k_ ≠ (.slice Ao28 t273.length co28 : Value).ownBlock ∧ some k_ ≠ (.slice Ao29 t276.length co29 : Value).ownBlock ∧ some k_ ≠ (.slice Ao30 t279.length co30 : Value).ownBlock ∧ some k_ ≠ (.slice Ao37 t287.length co37 : Value).ownBlock ∧ some k_ ≠ (.slice Ao38 t290.length co38 : Value).ownBlock ∧ some k_ ≠ (.slice Ao39 t293.length co39 : Value).ownBlock ∧ some k_ ≠ (.slice Ao46 t300.length co46 : Value).ownBlock ∧ some k_ ≠ (.slice Ao48 t306.length co48 : Value).ownBlock) (Kd.R_keptB (HO_311004.out) hkp (fun k_ hk_ hs_ => Or.elim hs_ (fun e_ => (hk_.1.1.1.2.2.2.1) e_) (fun e_ => Or.elim e_ (fun e_ => (hk_.1.1.1.2.2.2.2.1) e_) (fun e_ => (hk_.1.1.1.2.2.2.2.2.1) e_)))) (fun k_ hk_ => ⟨hk_.1.1.1.1.1, hk_.1.1.1.1.2.1, hk_.1.1.1.1.2.2.1, hk_.1.1.1.1.2.2.2.1, hk_.1.1.1.1.2.2.2.2.1, hk_.1.1.1.1.2.2.2.2.2.1, hk_.1.1.1.1.2.2.2.2.2.2.1, hk_.1.1.1.1.2.2.2.2.2.2.2⟩)); replace HO_311005 := Aside0.mk (Kd.R_mono (ok' := fun k_ => some k_ ≠ (.slice Ao28 t273.length co28 : Value).ownBlock ∧ some k_ ≠ (.slice Ao29 t276.length co29 : Value).ownBlock ∧ some k_ ≠ (.slice Ao30 t279.length co30 : Value).ownBlock ∧ some k_ ≠ (.slice Ao37 t287.length co37 : Value).ownBlock ∧ some k_ ≠ (.slice Ao38 t290.length co38 : Value).ownBlock ∧ some k_ ≠ (.slice Ao39 t293.length co39 : Value).ownBlock ∧ some k_ ≠ (.slice Ao46 t300.length co46 : Value).ownBlock ∧ some k_ ≠ (.slice Ao47 t303.length co47 : Value).ownBlock) (Kd.R_keptB (HO_311005.out) hkp (fun k_ hk_ hs_ => Or.elim hs_ (fun e_ => (hk_.1.1.1.2.2.2.1) e_) (fun e_ => Or.elim e_ (fun e_ => (hk_.1.1.1.2.2.2.2.1) e_) (fun e_ => (hk_.1.1.1.2.2.2.2.2.1) e_)))) (fun k_ hk_ => ⟨hk_.1.1.1.1.1, hk_.1.1.1.1.2.1, hk_.1.1.1.1.2.2.1, hk_.1.1.1.1.2.2.2.1, hk_.1.1.1.1.2.2.2.2.1, hk_.1.1.1.1.2.2.2.2.2.1, hk_.1.1.1.1.2.2.2.2.2.2.1, hk_.1.1.1.1.2.2.2.2.2.2.2⟩)); replace BK256 := Aside0.mk (blk_kept (kp_ BK256) hkp (fun hs_ => Or.elim hs_ (fun e_ => (fun e_ => (Kd.R_ne HO_297003.out BK256.out (by decide)) e_) e_) (fun e_ => Or.elim e_ (fun e_ => (fun e_ => (Kd.R_ne HO_297004.out BK256.out (by decide)) e_) e_) (fun e_ => (fun e_ => (Kd.R_ne HO_297005.out BK256.out (by decide)) e_) e_)))); replace BK283 := Aside0.mk (blk_kept (kp_ BK283) hkp (fun hs_ => Or.elim hs_ (fun e_ => (fun e_ => (Kd.R_ne HO_297003.out BK283.out (by decide)) e_) e_) (fun e_ => Or.elim e_ (fun e_ => (fun e_ => (Kd.R_ne HO_297004.out BK283.out (by decide)) e_) e_) (fun e_ => (fun e_ => (Kd.R_ne HO_297005.out BK283.out (by decide)) e_) e_)))); replace BK296 := Aside0.mk (blk_kept (kp_ BK296) hkp (fun hs_ => Or.elim hs_ (fun e_ => (fun e_ => (Kd.R_ne HO_297003.out BK296.out (by decide)) e_) e_) (fun e_ => Or.elim e_ (fun e_ => (fun e_ => (Kd.R_ne HO_297004.out BK296.out (by decide)) e_) e_) (fun e_ => (fun e_ => (Kd.R_ne HO_297005.out BK296.out (by decide)) e_) e_)))); replace BK310 := Aside0.mk (blk_kept (kp_ BK310) hkp (fun hs_ => Or.elim hs_ (fun e_ => (fun e_ => (Kd.R_ne HO_297003.out BK310.out (by decide)) e_) e_) (fun e_ => Or.elim e_ (fun e_ => (fun e_ => (Kd.R_ne HO_297004.out BK310.out (by decide)) e_) e_) (fun e_ => (fun e_ => (Kd.R_ne HO_297005.out BK310.out (by decide)) e_) e_)))); replace HB := Aside0.mk (hb); replace HO_297003 := Aside0.mk (Kd.R_reok rfl hy0 (fun k_ e_ => HO_297003.out.1 k_ e_)); replace HO_297004 := Aside0.mk (Kd.R_reok rfl hy1 (fun k_ e_ => HO_297004.out.1 k_ e_)); replace HO_297005 := Aside0.mk (Kd.R_reok rfl hy2 (fun k_ e_ => HO_297005.out.1 k_ e_)); (try clear hb); (try clear hkp); (try clear hy0); (try clear hy1); (try clear hy2)))
      (try simp only [Act.put, List.setIfInBounds_toArray, List.set_cons_zero, List.set_cons_succ])
      go_cut [77] (fun v77 wc => ∃ (kq : Nat) (x77_71 : Bool), v77 = .bool x77_71 ∧ Aside0 (laws_FnExactSetBlock.j1 kq a1 a2 a3 a4 t282 x77_71 a0_0 a0_1 a0_2 l0_3 l0_4 l0_5 t270 t271 t272 t273 t276 t279 t297 t298 t299 t300 t303 t306 = some r) ∧ Aside0 (kq ≤ kj14) ∧ Aside0 (Kd.R (Kd.int .i64) 3 wc w.heap.size (fun k_ => some k_ ≠ ((.slice Ao29 t276.length co29) : Value).ownBlock ∧ some k_ ≠ ((.slice Ao30 t279.length co30) : Value).ownBlock ∧ some k_ ≠ ((.slice Ao46 t300.length co46) : Value).ownBlock ∧ some k_ ≠ ((.slice Ao47 t303.length co47) : Value).ownBlock ∧ some k_ ≠ ((.slice Ao48 t306.length co48) : Value).ownBlock) (.slice Ao28 t273.length co28) t273) ∧ Aside0 (Kd.R (Kd.int .i64) 3 wc w.heap.size (fun k_ => some k_ ≠ ((.slice Ao28 t273.length co28) : Value).ownBlock ∧ some k_ ≠ ((.slice Ao30 t279.length co30) : Value).ownBlock ∧ some k_ ≠ ((.slice Ao46 t300.length co46) : Value).ownBlock ∧ some k_ ≠ ((.slice Ao47 t303.length co47) : Value).ownBlock ∧ some k_ ≠ ((.slice Ao48 t306.length co48) : Value).ownBlock) (.slice Ao29 t276.length co29) t276) ∧ Aside0 (Kd.R (Kd.int .i64) 3 wc w.heap.size (fun k_ => some k_ ≠ ((.slice Ao28 t273.length co28) : Value).ownBlock ∧ some k_ ≠ ((.slice Ao29 t276.length co29) : Value).ownBlock ∧ some k_ ≠ ((.slice Ao46 t300.length co46) : Value).ownBlock ∧ some k_ ≠ ((.slice Ao47 t303.length co47) : Value).ownBlock ∧ some k_ ≠ ((.slice Ao48 t306.length co48) : Value).ownBlock) (.slice Ao30 t279.length co30) t279) ∧ Aside0 (Kd.R (Kd.int .i64) 3 wc w.heap.size (fun k_ => some k_ ≠ ((.slice Ao28 t273.length co28) : Value).ownBlock ∧ some k_ ≠ ((.slice Ao29 t276.length co29) : Value).ownBlock ∧ some k_ ≠ ((.slice Ao30 t279.length co30) : Value).ownBlock ∧ some k_ ≠ ((.slice Ao47 t303.length co47) : Value).ownBlock ∧ some k_ ≠ ((.slice Ao48 t306.length co48) : Value).ownBlock) (.slice Ao46 t300.length co46) t300) ∧ Aside0 (Kd.R (Kd.int .i64) 3 wc w.heap.size (fun k_ => some k_ ≠ ((.slice Ao28 t273.length co28) : Value).ownBlock ∧ some k_ ≠ ((.slice Ao29 t276.length co29) : Value).ownBlock ∧ some k_ ≠ ((.slice Ao30 t279.length co30) : Value).ownBlock ∧ some k_ ≠ ((.slice Ao46 t300.length co46) : Value).ownBlock ∧ some k_ ≠ ((.slice Ao48 t306.length co48) : Value).ownBlock) (.slice Ao47 t303.length co47) t303) ∧ Aside0 (Kd.R (Kd.int .i64) 3 wc w.heap.size (fun k_ => some k_ ≠ ((.slice Ao28 t273.length co28) : Value).ownBlock ∧ some k_ ≠ ((.slice Ao29 t276.length co29) : Value).ownBlock ∧ some k_ ≠ ((.slice Ao30 t279.length co30) : Value).ownBlock ∧ some k_ ≠ ((.slice Ao46 t300.length co46) : Value).ownBlock ∧ some k_ ≠ ((.slice Ao47 t303.length co47) : Value).ownBlock) (.slice Ao48 t306.length co48) t306) ∧ Aside0 (wc.heap[gb256]? = some (.cells #[.int .i64 a0_0, .int .i64 a0_1, .int .i64 a0_2, (.slice A0_3 l0_3.length c0_3), (.slice A0_4 l0_4.length c0_4), (.slice A0_5 l0_5.length c0_5)] 26 (0, 0))) ∧ Aside0 (wc.heap[gb283]? = some (.cells #[.int .i64 t270, .int .i64 t271, .int .i64 t272, (.slice Ao28 t273.length co28), (.slice Ao29 t276.length co29), (.slice Ao30 t279.length co30)] 30 (0, 0))) ∧ Aside0 (wc.heap[gb310]? = some (.cells #[.int .i64 t297, .int .i64 t298, .int .i64 t299, (.slice Ao46 t300.length co46), (.slice Ao47 t303.length co47), (.slice Ao48 t306.length co48)] 30 (0, 0))) ∧ Aside0 (Below w.heap.size w wc))
      case first =>
       have H := HC72.out
       clear HC72
       by_cases c84 : t325 < 0
       ·rw [if_pos c84] at H
        have c84b0 : decide (t325 < 0) = true := decide_eq_true c84
        clear c84
        (first | rw [c84b0] | (simp only [i64_w, i32_w]; rw [c84b0]) | skip)
        have H' := Aside0.mk H
        clear H
        go_wp2
        go_meet
        case rel => exact ⟨_, (true), (by first | rfl | (simp; done) | (simp [*]; done)), H', ⟨by have := HJ14.out; first | omega | exact Nat.le_refl _⟩, ⟨Kd.R_pp (Kd.R_mono HO_284003.out (fun _ hk => ⟨hk.1, ⟨hk.2.1, ⟨hk.2.2.2.2.2.1, ⟨hk.2.2.2.2.2.2.1, hk.2.2.2.2.2.2.2⟩⟩⟩⟩))⟩, ⟨Kd.R_pp (Kd.R_mono HO_284004.out (fun _ hk => ⟨hk.1, ⟨hk.2.1, ⟨hk.2.2.2.2.2.1, ⟨hk.2.2.2.2.2.2.1, hk.2.2.2.2.2.2.2⟩⟩⟩⟩))⟩, ⟨Kd.R_pp (Kd.R_mono HO_284005.out (fun _ hk => ⟨hk.1, ⟨hk.2.1, ⟨hk.2.2.2.2.2.1, ⟨hk.2.2.2.2.2.2.1, hk.2.2.2.2.2.2.2⟩⟩⟩⟩))⟩, ⟨Kd.R_pp (Kd.R_mono HO_311003.out (fun _ hk => ⟨hk.1, ⟨hk.2.1, ⟨hk.2.2.1, ⟨hk.2.2.2.2.2.2.1, hk.2.2.2.2.2.2.2⟩⟩⟩⟩))⟩, ⟨Kd.R_pp (Kd.R_mono HO_311004.out (fun _ hk => ⟨hk.1, ⟨hk.2.1, ⟨hk.2.2.1, ⟨hk.2.2.2.2.2.2.1, hk.2.2.2.2.2.2.2⟩⟩⟩⟩))⟩, ⟨Kd.R_pp (Kd.R_mono HO_311005.out (fun _ hk => ⟨hk.1, ⟨hk.2.1, ⟨hk.2.2.1, ⟨hk.2.2.2.2.2.2.1, hk.2.2.2.2.2.2.2⟩⟩⟩⟩))⟩, ⟨kp_ BK256⟩, ⟨kp_ BK283⟩, ⟨kp_ BK310⟩, ⟨hb_ HB⟩⟩
       ·rw [if_neg c84] at H
        have c84b0 : decide (t325 < 0) = false := decide_eq_false c84
        clear c84
        (first | rw [c84b0] | (simp only [i64_w, i32_w]; rw [c84b0]) | skip)
        replace H := Option.bind_eq_some_iff.mp H
        obtain ⟨t329, A850, H⟩ := H
        replace H : (if t329 = true then (laws_FnExactSetBlock.j1 kj14 a1 a2 a3 a4 t282 (t309 != t282) a0_0 a0_1 a0_2 l0_3 l0_4 l0_5 t270 t271 t272 t273 t276 t279 t297 t298 t299 t300 t303 t306) else (laws_FnExactSetBlock.j1 kj14 a1 a2 a3 a4 t282 true a0_0 a0_1 a0_2 l0_3 l0_4 l0_5 t270 t271 t272 t273 t276 t279 t297 t298 t299 t300 t303 t306)) = some r := H
        have A85 := Aside0.mk A850
        clear A850
        by_cases c86 : t329 = true
        ·subst c86
         have H1 : (laws_FnExactSetBlock.j1 kj14 a1 a2 a3 a4 t282 (t309 != t282) a0_0 a0_1 a0_2 l0_3 l0_4 l0_5 t270 t271 t272 t273 t276 t279 t297 t298 t299 t300 t303 t306) = some r := by rw [if_pos rfl] at H; exact H
         clear H
         have H := H1
         clear H1
         have H' := Aside0.mk H
         clear H
         have hnb87 := NB310_256.out
         have hnc87 := NB256_310.out
         have hnb88 := NB310_283.out
         have hnc88 := NB283_310.out
         have hnb89 := NB310_296.out
         have hnc89 := NB296_310.out
         have hcz90_0 : w83.cell? ⟨gb310, 0, none⟩ = some (.int .i64 t297) := (blk_cell BK310.out 0).trans rfl
         have hcz90_1 : w83.cell? ⟨gb310, 1, none⟩ = some (.int .i64 t298) := (blk_cell BK310.out 1).trans rfl
         have hcz90_2 : w83.cell? ⟨gb310, 2, none⟩ = some (.int .i64 t299) := (blk_cell BK310.out 2).trans rfl
         have hcz90_3 : w83.cell? ⟨gb310, 3, none⟩ = some (.slice Ao46 t300.length co46) := (blk_cell BK310.out 3).trans rfl
         have hcz90_4 : w83.cell? ⟨gb310, 4, none⟩ = some (.slice Ao47 t303.length co47) := (blk_cell BK310.out 4).trans rfl
         have hcz90_5 : w83.cell? ⟨gb310, 5, none⟩ = some (.slice Ao48 t306.length co48) := (blk_cell BK310.out 5).trans rfl
         have hfz90_0 := blk_frozen BK310.out 0
         have hfz90_1 := blk_frozen BK310.out 1
         have hfz90_2 := blk_frozen BK310.out 2
         have hfz90_3 := blk_frozen BK310.out 3
         have hfz90_4 := blk_frozen BK310.out 4
         have hfz90_5 := blk_frozen BK310.out 5
         have hnb91 := NB283_256.out
         have hnc91 := NB256_283.out
         have hnb92 := NB283_296.out
         have hnc92 := NB296_283.out
         have hcz93_0 : w83.cell? ⟨gb283, 0, none⟩ = some (.int .i64 t270) := (blk_cell BK283.out 0).trans rfl
         have hcz93_1 : w83.cell? ⟨gb283, 1, none⟩ = some (.int .i64 t271) := (blk_cell BK283.out 1).trans rfl
         have hcz93_2 : w83.cell? ⟨gb283, 2, none⟩ = some (.int .i64 t272) := (blk_cell BK283.out 2).trans rfl
         have hcz93_3 : w83.cell? ⟨gb283, 3, none⟩ = some (.slice Ao28 t273.length co28) := (blk_cell BK283.out 3).trans rfl
         have hcz93_4 : w83.cell? ⟨gb283, 4, none⟩ = some (.slice Ao29 t276.length co29) := (blk_cell BK283.out 4).trans rfl
         have hcz93_5 : w83.cell? ⟨gb283, 5, none⟩ = some (.slice Ao30 t279.length co30) := (blk_cell BK283.out 5).trans rfl
         have hfz93_0 := blk_frozen BK283.out 0
         have hfz93_1 := blk_frozen BK283.out 1
         have hfz93_2 := blk_frozen BK283.out 2
         have hfz93_3 := blk_frozen BK283.out 3
         have hfz93_4 := blk_frozen BK283.out 4
         have hfz93_5 := blk_frozen BK283.out 5
         (try clear BK296); (try clear GW296); (try clear GE296); (try clear NB296_256); (try clear NB256_296); (try clear NB296_283); (try clear NB283_296); (try clear NB296_310); (try clear NB310_296)
         go_wp2_with (first | (go_at_call 11; (with_reducible refine (laws_eqModel.calls kj14 t297 t298 t299 _ _ t300 _ _ t303 _ _ t306 t270 t271 t272 _ _ t273 _ _ t276 _ _ t279 true _ ?side1 ?side2 ?side3 ?side4 ?side5 ?side6 ?side7 ?side8 ?side9 ?side10 ?side11 ?side12 A85.out).mono ?_); (case side1 => exact Kd.C_o HO_311003); (case side2 => exact (Kd.R_reads' HO_311003.out).2.1); (case side3 => exact Kd.C_o HO_311004); (case side4 => exact (Kd.R_reads' HO_311004.out).2.1); (case side5 => exact Kd.C_o HO_311005); (case side6 => exact (Kd.R_reads' HO_311005.out).2.1); (case side7 => exact Kd.C_o HO_284003); (case side8 => exact (Kd.R_reads' HO_284003.out).2.1); (case side9 => exact Kd.C_o HO_284004); (case side10 => exact (Kd.R_reads' HO_284004.out).2.1); (case side11 => exact Kd.C_o HO_284005); (case side12 => exact (Kd.R_reads' HO_284005.out).2.1); rintro e w94 ⟨rfl, hb⟩; have n0_ := Aside0.mk (Kd.R_below (Kd.R_p HO_284003) hb); have n1_ := Aside0.mk (Kd.R_below (Kd.R_p HO_284004) hb); have n2_ := Aside0.mk (Kd.R_below (Kd.R_p HO_284005) hb); have n3_ := Aside0.mk (Kd.R_below (Kd.R_p HO_297003) hb); have n4_ := Aside0.mk (Kd.R_below (Kd.R_p HO_297004) hb); have n5_ := Aside0.mk (Kd.R_below (Kd.R_p HO_297005) hb); have n6_ := Aside0.mk (Kd.R_below (Kd.R_p HO_311003) hb); have n7_ := Aside0.mk (Kd.R_below (Kd.R_p HO_311004) hb); have n8_ := Aside0.mk (Kd.R_below (Kd.R_p HO_311005) hb); have n9_ := Aside0.mk (blk_below (kp_ BK256) hb); have n10_ := Aside0.mk (blk_below (kp_ BK283) hb); have n11_ := Aside0.mk (blk_below (kp_ BK310) hb); have n12_ := Aside0.mk (below_step (hb_ HB) hb); clear HO_284003; clear HO_284004; clear HO_284005; clear HO_297003; clear HO_297004; clear HO_297005; clear HO_311003; clear HO_311004; clear HO_311005; clear BK256; clear BK283; clear BK310; clear HB; have HO_284003 := n0_; have HO_284004 := n1_; have HO_284005 := n2_; have HO_297003 := n3_; have HO_297004 := n4_; have HO_297005 := n5_; have HO_311003 := n6_; have HO_311004 := n7_; have HO_311005 := n8_; have BK256 := n9_; have BK283 := n10_; have BK310 := n11_; have HB := n12_; clear n0_ n1_ n2_ n3_ n4_ n5_ n6_ n7_ n8_ n9_ n10_ n11_ n12_; (try clear hb); (try clear hb2); (try clear hk); (try clear hi)))
         go_meet
         case rel => exact ⟨_, ((t309 != t282)), (by first | rfl | (simp; done) | (simp [*]; done)), H', ⟨by have := HJ14.out; first | omega | exact Nat.le_refl _⟩, ⟨Kd.R_pp (Kd.R_mono HO_284003.out (fun _ hk => ⟨hk.1, ⟨hk.2.1, ⟨hk.2.2.2.2.2.1, ⟨hk.2.2.2.2.2.2.1, hk.2.2.2.2.2.2.2⟩⟩⟩⟩))⟩, ⟨Kd.R_pp (Kd.R_mono HO_284004.out (fun _ hk => ⟨hk.1, ⟨hk.2.1, ⟨hk.2.2.2.2.2.1, ⟨hk.2.2.2.2.2.2.1, hk.2.2.2.2.2.2.2⟩⟩⟩⟩))⟩, ⟨Kd.R_pp (Kd.R_mono HO_284005.out (fun _ hk => ⟨hk.1, ⟨hk.2.1, ⟨hk.2.2.2.2.2.1, ⟨hk.2.2.2.2.2.2.1, hk.2.2.2.2.2.2.2⟩⟩⟩⟩))⟩, ⟨Kd.R_pp (Kd.R_mono HO_311003.out (fun _ hk => ⟨hk.1, ⟨hk.2.1, ⟨hk.2.2.1, ⟨hk.2.2.2.2.2.2.1, hk.2.2.2.2.2.2.2⟩⟩⟩⟩))⟩, ⟨Kd.R_pp (Kd.R_mono HO_311004.out (fun _ hk => ⟨hk.1, ⟨hk.2.1, ⟨hk.2.2.1, ⟨hk.2.2.2.2.2.2.1, hk.2.2.2.2.2.2.2⟩⟩⟩⟩))⟩, ⟨Kd.R_pp (Kd.R_mono HO_311005.out (fun _ hk => ⟨hk.1, ⟨hk.2.1, ⟨hk.2.2.1, ⟨hk.2.2.2.2.2.2.1, hk.2.2.2.2.2.2.2⟩⟩⟩⟩))⟩, ⟨kp_ BK256⟩, ⟨kp_ BK283⟩, ⟨kp_ BK310⟩, ⟨hb_ HB⟩⟩
        ·replace c86 := Bool.eq_false_iff.mpr c86
         subst c86
         have H1 : (laws_FnExactSetBlock.j1 kj14 a1 a2 a3 a4 t282 true a0_0 a0_1 a0_2 l0_3 l0_4 l0_5 t270 t271 t272 t273 t276 t279 t297 t298 t299 t300 t303 t306) = some r := by rw [if_neg (show ¬ (false = true) by decide)] at H; exact H
         clear H
         have H := H1
         clear H1
         have H' := Aside0.mk H
         clear H
         have hnb95 := NB310_256.out
         have hnc95 := NB256_310.out
         have hnb96 := NB310_283.out
         have hnc96 := NB283_310.out
         have hnb97 := NB310_296.out
         have hnc97 := NB296_310.out
         have hcz98_0 : w83.cell? ⟨gb310, 0, none⟩ = some (.int .i64 t297) := (blk_cell BK310.out 0).trans rfl
         have hcz98_1 : w83.cell? ⟨gb310, 1, none⟩ = some (.int .i64 t298) := (blk_cell BK310.out 1).trans rfl
         have hcz98_2 : w83.cell? ⟨gb310, 2, none⟩ = some (.int .i64 t299) := (blk_cell BK310.out 2).trans rfl
         have hcz98_3 : w83.cell? ⟨gb310, 3, none⟩ = some (.slice Ao46 t300.length co46) := (blk_cell BK310.out 3).trans rfl
         have hcz98_4 : w83.cell? ⟨gb310, 4, none⟩ = some (.slice Ao47 t303.length co47) := (blk_cell BK310.out 4).trans rfl
         have hcz98_5 : w83.cell? ⟨gb310, 5, none⟩ = some (.slice Ao48 t306.length co48) := (blk_cell BK310.out 5).trans rfl
         have hfz98_0 := blk_frozen BK310.out 0
         have hfz98_1 := blk_frozen BK310.out 1
         have hfz98_2 := blk_frozen BK310.out 2
         have hfz98_3 := blk_frozen BK310.out 3
         have hfz98_4 := blk_frozen BK310.out 4
         have hfz98_5 := blk_frozen BK310.out 5
         have hnb99 := NB283_256.out
         have hnc99 := NB256_283.out
         have hnb100 := NB283_296.out
         have hnc100 := NB296_283.out
         have hcz101_0 : w83.cell? ⟨gb283, 0, none⟩ = some (.int .i64 t270) := (blk_cell BK283.out 0).trans rfl
         have hcz101_1 : w83.cell? ⟨gb283, 1, none⟩ = some (.int .i64 t271) := (blk_cell BK283.out 1).trans rfl
         have hcz101_2 : w83.cell? ⟨gb283, 2, none⟩ = some (.int .i64 t272) := (blk_cell BK283.out 2).trans rfl
         have hcz101_3 : w83.cell? ⟨gb283, 3, none⟩ = some (.slice Ao28 t273.length co28) := (blk_cell BK283.out 3).trans rfl
         have hcz101_4 : w83.cell? ⟨gb283, 4, none⟩ = some (.slice Ao29 t276.length co29) := (blk_cell BK283.out 4).trans rfl
         have hcz101_5 : w83.cell? ⟨gb283, 5, none⟩ = some (.slice Ao30 t279.length co30) := (blk_cell BK283.out 5).trans rfl
         have hfz101_0 := blk_frozen BK283.out 0
         have hfz101_1 := blk_frozen BK283.out 1
         have hfz101_2 := blk_frozen BK283.out 2
         have hfz101_3 := blk_frozen BK283.out 3
         have hfz101_4 := blk_frozen BK283.out 4
         have hfz101_5 := blk_frozen BK283.out 5
         (try clear BK296); (try clear GW296); (try clear GE296); (try clear NB296_256); (try clear NB256_296); (try clear NB296_283); (try clear NB283_296); (try clear NB296_310); (try clear NB310_296)
         go_wp2_with (first | (go_at_call 11; (with_reducible refine (laws_eqModel.calls kj14 t297 t298 t299 _ _ t300 _ _ t303 _ _ t306 t270 t271 t272 _ _ t273 _ _ t276 _ _ t279 false _ ?side1 ?side2 ?side3 ?side4 ?side5 ?side6 ?side7 ?side8 ?side9 ?side10 ?side11 ?side12 A85.out).mono ?_); (case side1 => exact Kd.C_o HO_311003); (case side2 => exact (Kd.R_reads' HO_311003.out).2.1); (case side3 => exact Kd.C_o HO_311004); (case side4 => exact (Kd.R_reads' HO_311004.out).2.1); (case side5 => exact Kd.C_o HO_311005); (case side6 => exact (Kd.R_reads' HO_311005.out).2.1); (case side7 => exact Kd.C_o HO_284003); (case side8 => exact (Kd.R_reads' HO_284003.out).2.1); (case side9 => exact Kd.C_o HO_284004); (case side10 => exact (Kd.R_reads' HO_284004.out).2.1); (case side11 => exact Kd.C_o HO_284005); (case side12 => exact (Kd.R_reads' HO_284005.out).2.1); rintro e w102 ⟨rfl, hb⟩; have n0_ := Aside0.mk (Kd.R_below (Kd.R_p HO_284003) hb); have n1_ := Aside0.mk (Kd.R_below (Kd.R_p HO_284004) hb); have n2_ := Aside0.mk (Kd.R_below (Kd.R_p HO_284005) hb); have n3_ := Aside0.mk (Kd.R_below (Kd.R_p HO_297003) hb); have n4_ := Aside0.mk (Kd.R_below (Kd.R_p HO_297004) hb); have n5_ := Aside0.mk (Kd.R_below (Kd.R_p HO_297005) hb); have n6_ := Aside0.mk (Kd.R_below (Kd.R_p HO_311003) hb); have n7_ := Aside0.mk (Kd.R_below (Kd.R_p HO_311004) hb); have n8_ := Aside0.mk (Kd.R_below (Kd.R_p HO_311005) hb); have n9_ := Aside0.mk (blk_below (kp_ BK256) hb); have n10_ := Aside0.mk (blk_below (kp_ BK283) hb); have n11_ := Aside0.mk (blk_below (kp_ BK310) hb); have n12_ := Aside0.mk (below_step (hb_ HB) hb); clear HO_284003; clear HO_284004; clear HO_284005; clear HO_297003; clear HO_297004; clear HO_297005; clear HO_311003; clear HO_311004; clear HO_311005; clear BK256; clear BK283; clear BK310; clear HB; have HO_284003 := n0_; have HO_284004 := n1_; have HO_284005 := n2_; have HO_297003 := n3_; have HO_297004 := n4_; have HO_297005 := n5_; have HO_311003 := n6_; have HO_311004 := n7_; have HO_311005 := n8_; have BK256 := n9_; have BK283 := n10_; have BK310 := n11_; have HB := n12_; clear n0_ n1_ n2_ n3_ n4_ n5_ n6_ n7_ n8_ n9_ n10_ n11_ n12_; (try clear hb); (try clear hb2); (try clear hk); (try clear hi)))
         go_meet
         case rel => exact ⟨_, (true), (by first | rfl | (simp; done) | (simp [*]; done)), H', ⟨by have := HJ14.out; first | omega | exact Nat.le_refl _⟩, ⟨Kd.R_pp (Kd.R_mono HO_284003.out (fun _ hk => ⟨hk.1, ⟨hk.2.1, ⟨hk.2.2.2.2.2.1, ⟨hk.2.2.2.2.2.2.1, hk.2.2.2.2.2.2.2⟩⟩⟩⟩))⟩, ⟨Kd.R_pp (Kd.R_mono HO_284004.out (fun _ hk => ⟨hk.1, ⟨hk.2.1, ⟨hk.2.2.2.2.2.1, ⟨hk.2.2.2.2.2.2.1, hk.2.2.2.2.2.2.2⟩⟩⟩⟩))⟩, ⟨Kd.R_pp (Kd.R_mono HO_284005.out (fun _ hk => ⟨hk.1, ⟨hk.2.1, ⟨hk.2.2.2.2.2.1, ⟨hk.2.2.2.2.2.2.1, hk.2.2.2.2.2.2.2⟩⟩⟩⟩))⟩, ⟨Kd.R_pp (Kd.R_mono HO_311003.out (fun _ hk => ⟨hk.1, ⟨hk.2.1, ⟨hk.2.2.1, ⟨hk.2.2.2.2.2.2.1, hk.2.2.2.2.2.2.2⟩⟩⟩⟩))⟩, ⟨Kd.R_pp (Kd.R_mono HO_311004.out (fun _ hk => ⟨hk.1, ⟨hk.2.1, ⟨hk.2.2.1, ⟨hk.2.2.2.2.2.2.1, hk.2.2.2.2.2.2.2⟩⟩⟩⟩))⟩, ⟨Kd.R_pp (Kd.R_mono HO_311005.out (fun _ hk => ⟨hk.1, ⟨hk.2.1, ⟨hk.2.2.1, ⟨hk.2.2.2.2.2.2.1, hk.2.2.2.2.2.2.2⟩⟩⟩⟩))⟩, ⟨kp_ BK256⟩, ⟨kp_ BK283⟩, ⟨kp_ BK310⟩, ⟨hb_ HB⟩⟩
      case rest =>
       clear HC72
       (try clear c1); (try clear c2); (try clear p2); (try clear c3); (try clear c4); (try clear c5); (try clear c6); (try clear c7); (try clear c7b0); (try clear c8); (try clear c9); (try clear c10); (try clear c11); (try clear c12); (try clear c26); (try clear c34); (try clear c35); (try clear c42); (try clear c43); (try clear c44); (try clear c50); (try clear c51); (try clear c52); (try clear c53); (try clear c55); (try clear c56); (try clear c59); (try clear c60); (try clear c61); (try clear c63); (try clear c64); (try clear c67); (try clear c70); (try clear c79); (try clear c80); (try clear c81); (try clear c84); (try clear c84b0); (try clear c86); (try clear c87); (try clear c88); (try clear c89); (try clear c91); (try clear c92); (try clear c95); (try clear c96); (try clear c97); (try clear c99); (try clear c100); (try clear hcz82_0); (try clear hcz82_1); (try clear hcz82_2); (try clear hcz82_3); (try clear hcz82_4); (try clear hcz82_5); (try clear hfz82_0); (try clear hfz82_1); (try clear hfz82_2); (try clear hfz82_3); (try clear hfz82_4); (try clear hfz82_5)
       obtain ⟨kq, x77_71, rfl, HA, HJ71, HO_284003, HO_284004, HO_284005, HO_311003, HO_311004, HO_311005, BK256, BK283, BK310, HB⟩ := hcut
       cases kq with
       | zero => exact absurd HA.out (by simp [laws_FnExactSetBlock.j1])
       | succ kj71 =>
        have H := HA.out
        clear HA
        simp only [laws_FnExactSetBlock.j1] at H
        by_cases c103 : x77_71 = true
        ·subst c103
         have H1 : (some false) = some r := by rw [if_pos rfl] at H; exact H
         clear H
         have H := H1
         clear H1
         obtain rfl := Option.some.inj H
         go_wp2
         go_ret
         exact ⟨by first | rfl | (simp [errW_none, errW_some] <;> rfl) | (simp [*, errW_none, errW_some] <;> rfl), hb_ HB⟩
        ·replace c103 := Bool.eq_false_iff.mpr c103
         subst c103
         have H1 : ((laws_markModel.f kj71 t297 t298 t299 t300 t303 t306 1).bind fun bt330 => ((laws_heldModel.f kj71 t297 t298 t299 bt330.2.1 bt330.2.2.1 bt330.2.2.2 1).bind fun t334 => (if t334 < 0 then (some false) else (if t334 = bt330.1 then ((laws_toModel.f kj71 a0_0 a0_1 a0_2 l0_3 l0_4 l0_5).bind fun bt335 => ((impl_SetBlock.f kj71 bt335.1 bt335.2.1 bt335.2.2.1 bt335.2.2.2.1 bt335.2.2.2.2.1 bt335.2.2.2.2.2 a1 a2 a3 a4).bind fun bt347 => ((laws_eqModel.f kj71 bt347.1 bt347.2.1 bt347.2.2.1 bt347.2.2.2.1 bt347.2.2.2.2.1 bt347.2.2.2.2.2.1 t270 t271 t272 t273 t276 t279).bind fun t361 => (if t361 = true then (laws_FnExactSetBlock.j2 kj71 bt330.1 (bt347.2.2.2.2.2.2 != t282) t297 t298 t299 bt330.2.1 bt330.2.2.1 bt330.2.2.2) else (laws_FnExactSetBlock.j2 kj71 bt330.1 true t297 t298 t299 bt330.2.1 bt330.2.2.1 bt330.2.2.2))))) else (some false))))) = some r := by rw [if_neg (show ¬ (false = true) by decide)] at H; exact H
         clear H
         have H := H1
         clear H1
         replace H := Option.bind_eq_some_iff.mp H
         obtain ⟨⟨t330, t331, t332, t333⟩, A1040, H⟩ := H
         replace H : ((laws_heldModel.f kj71 t297 t298 t299 t331 t332 t333 1).bind fun t334 => (if t334 < 0 then (some false) else (if t334 = t330 then ((laws_toModel.f kj71 a0_0 a0_1 a0_2 l0_3 l0_4 l0_5).bind fun bt335 => ((impl_SetBlock.f kj71 bt335.1 bt335.2.1 bt335.2.2.1 bt335.2.2.2.1 bt335.2.2.2.2.1 bt335.2.2.2.2.2 a1 a2 a3 a4).bind fun bt347 => ((laws_eqModel.f kj71 bt347.1 bt347.2.1 bt347.2.2.1 bt347.2.2.2.1 bt347.2.2.2.2.1 bt347.2.2.2.2.2.1 t270 t271 t272 t273 t276 t279).bind fun t361 => (if t361 = true then (laws_FnExactSetBlock.j2 kj71 t330 (bt347.2.2.2.2.2.2 != t282) t297 t298 t299 t331 t332 t333) else (laws_FnExactSetBlock.j2 kj71 t330 true t297 t298 t299 t331 t332 t333))))) else (some false)))) = some r := H
         have A104 := Aside0.mk A1040
         clear A1040
         replace H := Option.bind_eq_some_iff.mp H
         obtain ⟨t334, A1050, H⟩ := H
         replace H : (if t334 < 0 then (some false) else (if t334 = t330 then ((laws_toModel.f kj71 a0_0 a0_1 a0_2 l0_3 l0_4 l0_5).bind fun bt335 => ((impl_SetBlock.f kj71 bt335.1 bt335.2.1 bt335.2.2.1 bt335.2.2.2.1 bt335.2.2.2.2.1 bt335.2.2.2.2.2 a1 a2 a3 a4).bind fun bt347 => ((laws_eqModel.f kj71 bt347.1 bt347.2.1 bt347.2.2.1 bt347.2.2.2.1 bt347.2.2.2.2.1 bt347.2.2.2.2.2.1 t270 t271 t272 t273 t276 t279).bind fun t361 => (if t361 = true then (laws_FnExactSetBlock.j2 kj71 t330 (bt347.2.2.2.2.2.2 != t282) t297 t298 t299 t331 t332 t333) else (laws_FnExactSetBlock.j2 kj71 t330 true t297 t298 t299 t331 t332 t333))))) else (some false))) = some r := H
         have A105 := Aside0.mk A1050
         clear A1050
         by_cases c106 : t334 < 0
         ·rw [if_pos c106] at H
          have c106b0 : decide (t334 < 0) = true := decide_eq_true c106
          clear c106
          obtain rfl := Option.some.inj H
          have hnb107 := NB310_256.out
          have hnc107 := NB256_310.out
          have hnb108 := NB310_283.out
          have hnc108 := NB283_310.out
          have hcz109_0 : wc.cell? ⟨gb310, 0, none⟩ = some (.int .i64 t297) := (blk_cell BK310.out 0).trans rfl
          have hcz109_1 : wc.cell? ⟨gb310, 1, none⟩ = some (.int .i64 t298) := (blk_cell BK310.out 1).trans rfl
          have hcz109_2 : wc.cell? ⟨gb310, 2, none⟩ = some (.int .i64 t299) := (blk_cell BK310.out 2).trans rfl
          have hcz109_3 : wc.cell? ⟨gb310, 3, none⟩ = some (.slice Ao46 t300.length co46) := (blk_cell BK310.out 3).trans rfl
          have hcz109_4 : wc.cell? ⟨gb310, 4, none⟩ = some (.slice Ao47 t303.length co47) := (blk_cell BK310.out 4).trans rfl
          have hcz109_5 : wc.cell? ⟨gb310, 5, none⟩ = some (.slice Ao48 t306.length co48) := (blk_cell BK310.out 5).trans rfl
          have hfz109_0 := blk_frozen BK310.out 0
          have hfz109_1 := blk_frozen BK310.out 1
          have hfz109_2 := blk_frozen BK310.out 2
          have hfz109_3 := blk_frozen BK310.out 3
          have hfz109_4 := blk_frozen BK310.out 4
          have hfz109_5 := blk_frozen BK310.out 5
          (try clear BK256); (try clear GW256); (try clear GE256); (try clear NB256_283); (try clear NB283_256); (try clear NB256_310); (try clear NB310_256); (try clear BK283); (try clear GW283); (try clear GE283); (try clear NB283_256); (try clear NB256_283); (try clear NB283_310); (try clear NB310_283)
          go_wp2_with (first | ((with_reducible refine gate_callee (f := 12) rfl ?_); refine gl_ (some 80) Try.func12 #[.agg #[.int .i64 t297, .int .i64 t298, .int .i64 t299, .slice Ao46 t300.length co46, .slice Ao47 t303.length co47, .slice Ao48 t306.length co48], .int .i64 1] rfl rfl rfl ?_; (with_reducible refine (laws_markModel.calls kj71 t297 t298 t299 (fun k_ => some k_ = (.slice Ao46 t300.length co46 : Value).ownBlock) (.slice Ao46 t300.length co46) t300 (fun k_ => some k_ = (.slice Ao47 t303.length co47 : Value).ownBlock) (.slice Ao47 t303.length co47) t303 (fun k_ => some k_ = (.slice Ao48 t306.length co48 : Value).ownBlock) (.slice Ao48 t306.length co48) t306 1 t330 t331 t332 t333 w _ ?side1 ?side2 ?side3 ?side4 ?side5 ?side6 ?side7 ?side8 ?side9 ?side10 A104.out).mono ?_); (case side1 => repeat (first | (with_reducible first | exact HB.out | apply below_alloc | apply pw_below_drewN | apply below_drew1 | refine below_set ?_ GE310.out) | exact HB.out)); (case side2 => exact Kd.R_tight rfl HO_311003.out); (case side3 => exact fun k_ e_ => (HO_311003.out.1 k_ e_.symm).2.2.2.1); (case side4 => exact fun k_ e_ => (HO_311003.out.1 k_ e_.symm).2.2.2.2); (case side5 => exact Kd.R_tight rfl HO_311004.out); (case side6 => exact fun k_ e_ => (HO_311004.out.1 k_ e_.symm).2.2.2.1); (case side7 => exact fun k_ e_ => (HO_311004.out.1 k_ e_.symm).2.2.2.2); (case side8 => exact Kd.R_tight rfl HO_311005.out); (case side9 => exact fun k_ e_ => (HO_311005.out.1 k_ e_.symm).2.2.2.1); (case side10 => exact fun k_ e_ => (HO_311005.out.1 k_ e_.symm).2.2.2.2); rintro e w110 ⟨rfl, hy0, hy1, hy2, hb, hkp⟩; refine ⟨_, rfl, ?_⟩; replace HO_284003 := Aside0.mk (Kd.R_mono (ok' := fun k_ => some k_ ≠ (.slice Ao29 t276.length co29 : Value).ownBlock ∧ some k_ ≠ (.slice Ao30 t279.length co30 : Value).ownBlock ∧ some k_ ≠ (.slice Ao46 t300.length co46 : Value).ownBlock ∧ some k_ ≠ (.slice Ao47 t303.length co47 : Value).ownBlock ∧ some k_ ≠ (.slice Ao48 t306.length co48 : Value).ownBlock) (Kd.R_keptB (HO_284003.out) hkp (fun k_ hk_ hs_ => Or.elim hs_ (fun e_ => (hk_.2.2.1) e_) (fun e_ => Or.elim e_ (fun e_ => (hk_.2.2.2.1) e_) (fun e_ => (hk_.2.2.2.2) e_)))) (fun k_ hk_ => ⟨hk_.1.1, hk_.1.2.1, hk_.1.2.2.1, hk_.1.2.2.2.1, hk_.1.2.2.2.2⟩)); replace HO_284004 := Aside0.mk (Kd.R_mono (ok' := fun k_ => some k_ ≠ (.slice Ao28 t273.length co28 : Value).ownBlock ∧ some k_ ≠ (.slice Ao30 t279.length co30 : Value).ownBlock ∧ some k_ ≠ (.slice Ao46 t300.length co46 : Value).ownBlock ∧ some k_ ≠ (.slice Ao47 t303.length co47 : Value).ownBlock ∧ some k_ ≠ (.slice Ao48 t306.length co48 : Value).ownBlock) (Kd.R_keptB (HO_284004.out) hkp (fun k_ hk_ hs_ => Or.elim hs_ (fun e_ => (hk_.2.2.1) e_) (fun e_ => Or.elim e_ (fun e_ => (hk_.2.2.2.1) e_) (fun e_ => (hk_.2.2.2.2) e_)))) (fun k_ hk_ => ⟨hk_.1.1, hk_.1.2.1, hk_.1.2.2.1, hk_.1.2.2.2.1, hk_.1.2.2.2.2⟩)); replace HO_284005 := Aside0.mk (Kd.R_mono (ok' := fun k_ => some k_ ≠ (.slice Ao28 t273.length co28 : Value).ownBlock ∧ some k_ ≠ (.slice Ao29 t276.length co29 : Value).ownBlock ∧ some k_ ≠ (.slice Ao46 t300.length co46 : Value).ownBlock ∧ some k_ ≠ (.slice Ao47 t303.length co47 : Value).ownBlock ∧ some k_ ≠ (.slice Ao48 t306.length co48 : Value).ownBlock) (Kd.R_keptB (HO_284005.out) hkp (fun k_ hk_ hs_ => Or.elim hs_ (fun e_ => (hk_.2.2.1) e_) (fun e_ => Or.elim e_ (fun e_ => (hk_.2.2.2.1) e_) (fun e_ => (hk_.2.2.2.2) e_)))) (fun k_ hk_ => ⟨hk_.1.1, hk_.1.2.1, hk_.1.2.2.1, hk_.1.2.2.2.1, hk_.1.2.2.2.2⟩)); replace BK310 := Aside0.mk (blk_kept (kp_ BK310) hkp (fun hs_ => Or.elim hs_ (fun e_ => (fun e_ => (Kd.R_ne HO_311003.out BK310.out (by decide)) e_) e_) (fun e_ => Or.elim e_ (fun e_ => (fun e_ => (Kd.R_ne HO_311004.out BK310.out (by decide)) e_) e_) (fun e_ => (fun e_ => (Kd.R_ne HO_311005.out BK310.out (by decide)) e_) e_)))); replace HB := Aside0.mk (hb); replace HO_311003 := Aside0.mk (Kd.R_reok rfl hy0 (fun k_ e_ => HO_311003.out.1 k_ e_)); replace HO_311004 := Aside0.mk (Kd.R_reok rfl hy1 (fun k_ e_ => HO_311004.out.1 k_ e_)); replace HO_311005 := Aside0.mk (Kd.R_reok rfl hy2 (fun k_ e_ => HO_311005.out.1 k_ e_)); (try clear hb); (try clear hkp); (try clear hy0); (try clear hy1); (try clear hy2); obtain ⟨hcz111_0, hcz111_1, hcz111_2, hcz111_3, hcz111_4, hcz111_5, hfz111_0, hfz111_1, hfz111_2, hfz111_3, hfz111_4, hfz111_5⟩ := bx6 BK310) | ((with_reducible refine gate_callee (f := 13) rfl ?_); refine gl_ (some 83) Try.func13 #[.agg #[.int .i64 t297, .int .i64 t298, .int .i64 t299, .slice Ao46 t331.length co46, .slice Ao47 t332.length co47, .slice Ao48 t333.length co48], .int .i64 1] rfl rfl rfl ?_ (by (try simp only [List.map_toArray, List.map_cons, List.map_nil]); first | done | (rw [show t331.length = t300.length from (Kd.R_reads' HO_311003.out).1.symm, show t332.length = t303.length from (Kd.R_reads' HO_311004.out).1.symm, show t333.length = t306.length from (Kd.R_reads' HO_311005.out).1.symm] <;> rfl) | rfl | (simp only [List.length_drop, List.length_take]; rfl)); (with_reducible refine (laws_heldModel.calls kj71 t297 t298 t299 _ _ t331 _ _ t332 _ _ t333 1 t334 _ ?side1 ?side2 ?side3 ?side4 ?side5 ?side6 A105.out).mono ?_); (case side1 => exact Kd.C_o HO_311003); (case side2 => rw [show t331.length = t300.length from (Kd.R_reads' HO_311003.out).1.symm]; exact (Kd.R_reads' HO_311003.out).2.1); (case side3 => exact Kd.C_o HO_311004); (case side4 => rw [show t332.length = t303.length from (Kd.R_reads' HO_311004.out).1.symm]; exact (Kd.R_reads' HO_311004.out).2.1); (case side5 => exact Kd.C_o HO_311005); (case side6 => rw [show t333.length = t306.length from (Kd.R_reads' HO_311005.out).1.symm]; exact (Kd.R_reads' HO_311005.out).2.1); rintro e w112 ⟨rfl, hb⟩; refine ⟨_, rfl, ?_⟩; replace HO_284003 := Kd.R_b HO_284003 hb; replace HO_284004 := Kd.R_b HO_284004 hb; replace HO_284005 := Kd.R_b HO_284005 hb; replace HO_311003 := Kd.R_b HO_311003 hb; replace HO_311004 := Kd.R_b HO_311004 hb; replace HO_311005 := Kd.R_b HO_311005 hb; replace BK310 := kb_ BK310 hb; replace HB := hbs_ HB hb; (try clear hb); (try clear hb2); (try clear hk); (try clear hi)))
          go_ret
          exact ⟨by first | rfl | (simp [errW_none, errW_some] <;> rfl) | (simp [*, errW_none, errW_some] <;> rfl), hb_ HB⟩
         ·rw [if_neg c106] at H
          have c106b0 : decide (t334 < 0) = false := decide_eq_false c106
          clear c106
          by_cases c113 : t334 = t330
          ·rw [if_pos c113] at H
           have c113b0 : (t334 == t330) = true := beq_iff_eq.mpr c113
           have c113b1 : (t334 != t330) = false := bne_eq_false_iff_eq.mpr c113
           clear c113
           replace H := Option.bind_eq_some_iff.mp H
           obtain ⟨⟨t335, t336, t337, t338, t341, t344⟩, A1140, H⟩ := H
           replace H : ((impl_SetBlock.f kj71 t335 t336 t337 t338 t341 t344 a1 a2 a3 a4).bind fun bt347 => ((laws_eqModel.f kj71 bt347.1 bt347.2.1 bt347.2.2.1 bt347.2.2.2.1 bt347.2.2.2.2.1 bt347.2.2.2.2.2.1 t270 t271 t272 t273 t276 t279).bind fun t361 => (if t361 = true then (laws_FnExactSetBlock.j2 kj71 t330 (bt347.2.2.2.2.2.2 != t282) t297 t298 t299 t331 t332 t333) else (laws_FnExactSetBlock.j2 kj71 t330 true t297 t298 t299 t331 t332 t333)))) = some r := H
           have A114 := Aside0.mk A1140
           clear A1140
           replace H := Option.bind_eq_some_iff.mp H
           obtain ⟨⟨t347, t348, t349, t350, t353, t356, t359⟩, A1150, H⟩ := H
           replace H : ((laws_eqModel.f kj71 t347 t348 t349 t350 t353 t356 t270 t271 t272 t273 t276 t279).bind fun t361 => (if t361 = true then (laws_FnExactSetBlock.j2 kj71 t330 (t359 != t282) t297 t298 t299 t331 t332 t333) else (laws_FnExactSetBlock.j2 kj71 t330 true t297 t298 t299 t331 t332 t333))) = some r := H
           have A115 := Aside0.mk A1150
           clear A1150
           have HC116 := Aside0.mk H
           clear H
           have hnb117 := NB310_256.out
           have hnc117 := NB256_310.out
           have hnb118 := NB310_283.out
           have hnc118 := NB283_310.out
           have hcz119_0 : wc.cell? ⟨gb310, 0, none⟩ = some (.int .i64 t297) := (blk_cell BK310.out 0).trans rfl
           have hcz119_1 : wc.cell? ⟨gb310, 1, none⟩ = some (.int .i64 t298) := (blk_cell BK310.out 1).trans rfl
           have hcz119_2 : wc.cell? ⟨gb310, 2, none⟩ = some (.int .i64 t299) := (blk_cell BK310.out 2).trans rfl
           have hcz119_3 : wc.cell? ⟨gb310, 3, none⟩ = some (.slice Ao46 t300.length co46) := (blk_cell BK310.out 3).trans rfl
           have hcz119_4 : wc.cell? ⟨gb310, 4, none⟩ = some (.slice Ao47 t303.length co47) := (blk_cell BK310.out 4).trans rfl
           have hcz119_5 : wc.cell? ⟨gb310, 5, none⟩ = some (.slice Ao48 t306.length co48) := (blk_cell BK310.out 5).trans rfl
           have hfz119_0 := blk_frozen BK310.out 0
           have hfz119_1 := blk_frozen BK310.out 1
           have hfz119_2 := blk_frozen BK310.out 2
           have hfz119_3 := blk_frozen BK310.out 3
           have hfz119_4 := blk_frozen BK310.out 4
           have hfz119_5 := blk_frozen BK310.out 5
           go_upto_region 25 with (first | ((with_reducible refine gate_callee (f := 12) rfl ?_); refine gl_ (some 80) Try.func12 #[.agg #[.int .i64 t297, .int .i64 t298, .int .i64 t299, .slice Ao46 t300.length co46, .slice Ao47 t303.length co47, .slice Ao48 t306.length co48], .int .i64 1] rfl rfl rfl ?_; (with_reducible refine (laws_markModel.calls kj71 t297 t298 t299 (fun k_ => some k_ = (.slice Ao46 t300.length co46 : Value).ownBlock) (.slice Ao46 t300.length co46) t300 (fun k_ => some k_ = (.slice Ao47 t303.length co47 : Value).ownBlock) (.slice Ao47 t303.length co47) t303 (fun k_ => some k_ = (.slice Ao48 t306.length co48 : Value).ownBlock) (.slice Ao48 t306.length co48) t306 1 t330 t331 t332 t333 w _ ?side1 ?side2 ?side3 ?side4 ?side5 ?side6 ?side7 ?side8 ?side9 ?side10 A104.out).mono ?_); (case side1 => repeat (first | (with_reducible first | exact HB.out | apply below_alloc | apply pw_below_drewN | apply below_drew1 | refine below_set ?_ GE256.out | refine below_set ?_ GE283.out | refine below_set ?_ GE310.out) | exact HB.out)); (case side2 => exact Kd.R_tight rfl HO_311003.out); (case side3 => exact fun k_ e_ => (HO_311003.out.1 k_ e_.symm).2.2.2.1); (case side4 => exact fun k_ e_ => (HO_311003.out.1 k_ e_.symm).2.2.2.2); (case side5 => exact Kd.R_tight rfl HO_311004.out); (case side6 => exact fun k_ e_ => (HO_311004.out.1 k_ e_.symm).2.2.2.1); (case side7 => exact fun k_ e_ => (HO_311004.out.1 k_ e_.symm).2.2.2.2); (case side8 => exact Kd.R_tight rfl HO_311005.out); (case side9 => exact fun k_ e_ => (HO_311005.out.1 k_ e_.symm).2.2.2.1); (case side10 => exact fun k_ e_ => (HO_311005.out.1 k_ e_.symm).2.2.2.2); rintro e w120 ⟨rfl, hy0, hy1, hy2, hb, hkp⟩; refine ⟨_, rfl, ?_⟩; replace HO_284003 := Aside0.mk (Kd.R_mono (ok' := fun k_ => some k_ ≠ (.slice Ao29 t276.length co29 : Value).ownBlock ∧ some k_ ≠ (.slice Ao30 t279.length co30 : Value).ownBlock ∧ some k_ ≠ (.slice Ao46 t300.length co46 : Value).ownBlock ∧ some k_ ≠ (.slice Ao47 t303.length co47 : Value).ownBlock ∧ some k_ ≠ (.slice Ao48 t306.length co48 : Value).ownBlock) (Kd.R_keptB (HO_284003.out) hkp (fun k_ hk_ hs_ => Or.elim hs_ (fun e_ => (hk_.2.2.1) e_) (fun e_ => Or.elim e_ (fun e_ => (hk_.2.2.2.1) e_) (fun e_ => (hk_.2.2.2.2) e_)))) (fun k_ hk_ => ⟨hk_.1.1, hk_.1.2.1, hk_.1.2.2.1, hk_.1.2.2.2.1, hk_.1.2.2.2.2⟩)); replace HO_284004 := Aside0.mk (Kd.R_mono (ok' := fun k_ => some k_ ≠ (.slice Ao28 t273.length co28 : Value).ownBlock ∧ some k_ ≠ (.slice Ao30 t279.length co30 : Value).ownBlock ∧ some k_ ≠ (.slice Ao46 t300.length co46 : Value).ownBlock ∧ some k_ ≠ (.slice Ao47 t303.length co47 : Value).ownBlock ∧ some k_ ≠ (.slice Ao48 t306.length co48 : Value).ownBlock) (Kd.R_keptB (HO_284004.out) hkp (fun k_ hk_ hs_ => Or.elim hs_ (fun e_ => (hk_.2.2.1) e_) (fun e_ => Or.elim e_ (fun e_ => (hk_.2.2.2.1) e_) (fun e_ => (hk_.2.2.2.2) e_)))) (fun k_ hk_ => ⟨hk_.1.1, hk_.1.2.1, hk_.1.2.2.1, hk_.1.2.2.2.1, hk_.1.2.2.2.2⟩)); replace HO_284005 := Aside0.mk (Kd.R_mono (ok' := fun k_ => some k_ ≠ (.slice Ao28 t273.length co28 : Value).ownBlock ∧ some k_ ≠ (.slice Ao29 t276.length co29 : Value).ownBlock ∧ some k_ ≠ (.slice Ao46 t300.length co46 : Value).ownBlock ∧ some k_ ≠ (.slice Ao47 t303.length co47 : Value).ownBlock ∧ some k_ ≠ (.slice Ao48 t306.length co48 : Value).ownBlock) (Kd.R_keptB (HO_284005.out) hkp (fun k_ hk_ hs_ => Or.elim hs_ (fun e_ => (hk_.2.2.1) e_) (fun e_ => Or.elim e_ (fun e_ => (hk_.2.2.2.1) e_) (fun e_ => (hk_.2.2.2.2) e_)))) (fun k_ hk_ => ⟨hk_.1.1, hk_.1.2.1, hk_.1.2.2.1, hk_.1.2.2.2.1, hk_.1.2.2.2.2⟩)); replace BK256 := Aside0.mk (blk_kept (kp_ BK256) hkp (fun hs_ => Or.elim hs_ (fun e_ => (fun e_ => (Kd.R_ne HO_311003.out BK256.out (by decide)) e_) e_) (fun e_ => Or.elim e_ (fun e_ => (fun e_ => (Kd.R_ne HO_311004.out BK256.out (by decide)) e_) e_) (fun e_ => (fun e_ => (Kd.R_ne HO_311005.out BK256.out (by decide)) e_) e_)))); replace BK283 := Aside0.mk (blk_kept (kp_ BK283) hkp (fun hs_ => Or.elim hs_ (fun e_ => (fun e_ => (Kd.R_ne HO_311003.out BK283.out (by decide)) e_) e_) (fun e_ => Or.elim e_ (fun e_ => (fun e_ => (Kd.R_ne HO_311004.out BK283.out (by decide)) e_) e_) (fun e_ => (fun e_ => (Kd.R_ne HO_311005.out BK283.out (by decide)) e_) e_)))); replace BK310 := Aside0.mk (blk_kept (kp_ BK310) hkp (fun hs_ => Or.elim hs_ (fun e_ => (fun e_ => (Kd.R_ne HO_311003.out BK310.out (by decide)) e_) e_) (fun e_ => Or.elim e_ (fun e_ => (fun e_ => (Kd.R_ne HO_311004.out BK310.out (by decide)) e_) e_) (fun e_ => (fun e_ => (Kd.R_ne HO_311005.out BK310.out (by decide)) e_) e_)))); replace HB := Aside0.mk (hb); replace HO_311003 := Aside0.mk (Kd.R_reok rfl hy0 (fun k_ e_ => HO_311003.out.1 k_ e_)); replace HO_311004 := Aside0.mk (Kd.R_reok rfl hy1 (fun k_ e_ => HO_311004.out.1 k_ e_)); replace HO_311005 := Aside0.mk (Kd.R_reok rfl hy2 (fun k_ e_ => HO_311005.out.1 k_ e_)); (try clear hb); (try clear hkp); (try clear hy0); (try clear hy1); (try clear hy2); obtain ⟨hcz121_0, hcz121_1, hcz121_2, hcz121_3, hcz121_4, hcz121_5, hfz121_0, hfz121_1, hfz121_2, hfz121_3, hfz121_4, hfz121_5⟩ := bx6 BK310) | ((with_reducible refine gate_callee (f := 13) rfl ?_); refine gl_ (some 83) Try.func13 #[.agg #[.int .i64 t297, .int .i64 t298, .int .i64 t299, .slice Ao46 t331.length co46, .slice Ao47 t332.length co47, .slice Ao48 t333.length co48], .int .i64 1] rfl rfl rfl ?_ (by (try simp only [List.map_toArray, List.map_cons, List.map_nil]); first | done | (rw [show t331.length = t300.length from (Kd.R_reads' HO_311003.out).1.symm, show t332.length = t303.length from (Kd.R_reads' HO_311004.out).1.symm, show t333.length = t306.length from (Kd.R_reads' HO_311005.out).1.symm] <;> rfl) | rfl | (simp only [List.length_drop, List.length_take]; rfl)); (with_reducible refine (laws_heldModel.calls kj71 t297 t298 t299 _ _ t331 _ _ t332 _ _ t333 1 t334 _ ?side1 ?side2 ?side3 ?side4 ?side5 ?side6 A105.out).mono ?_); (case side1 => exact Kd.C_o HO_311003); (case side2 => rw [show t331.length = t300.length from (Kd.R_reads' HO_311003.out).1.symm]; exact (Kd.R_reads' HO_311003.out).2.1); (case side3 => exact Kd.C_o HO_311004); (case side4 => rw [show t332.length = t303.length from (Kd.R_reads' HO_311004.out).1.symm]; exact (Kd.R_reads' HO_311004.out).2.1); (case side5 => exact Kd.C_o HO_311005); (case side6 => rw [show t333.length = t306.length from (Kd.R_reads' HO_311005.out).1.symm]; exact (Kd.R_reads' HO_311005.out).2.1); rintro e w122 ⟨rfl, hb⟩; refine ⟨_, rfl, ?_⟩; replace HO_284003 := Kd.R_b HO_284003 hb; replace HO_284004 := Kd.R_b HO_284004 hb; replace HO_284005 := Kd.R_b HO_284005 hb; replace HO_311003 := Kd.R_b HO_311003 hb; replace HO_311004 := Kd.R_b HO_311004 hb; replace HO_311005 := Kd.R_b HO_311005 hb; replace BK256 := kb_ BK256 hb; replace BK283 := kb_ BK283 hb; replace BK310 := kb_ BK310 hb; replace HB := hbs_ HB hb; (try clear hb); (try clear hb2); (try clear hk); (try clear hi); have hnb123 := NB256_283.out; have hnc123 := NB283_256.out; obtain ⟨hcz124_0, hcz124_1, hcz124_2, hcz124_3, hcz124_4, hcz124_5, hfz124_0, hfz124_1, hfz124_2, hfz124_3, hfz124_4, hfz124_5⟩ := bx6 BK256) | ((with_reducible refine gate_callee (f := 9) rfl ?_); refine gl_ (some 91) Try.func9 #[.agg #[.int .i64 a0_0, .int .i64 a0_1, .int .i64 a0_2, .slice A0_3 l0_3.length c0_3, .slice A0_4 l0_4.length c0_4, .slice A0_5 l0_5.length c0_5]] rfl rfl rfl ?_; (with_reducible refine (laws_toModel.calls kj71 a0_0 a0_1 a0_2 _ _ l0_3 _ _ l0_4 _ _ l0_5 t335 t336 t337 t338 t341 t344 _ ?side1 ?side2 ?side3 ?side4 ?side5 ?side6 A114.out).mono ?_); (case side1 => exact Kd.C_w HR0_3 HB); (case side2 => exact HC0_3.out); (case side3 => exact Kd.C_w HR0_4 HB); (case side4 => exact HC0_4.out); (case side5 => exact Kd.C_w HR0_5 HB); (case side6 => exact HC0_5.out); rintro e w125 ⟨v339, v342, v345, rfl, ho0, ho1, ho2, hb⟩; refine ⟨_, rfl, ?_⟩; have HO340 := Aside0.mk (Kd.R_lower (Kd.R_new' (Kd.R_new' (Kd.R_new' (Kd.R_new' (Kd.R_new' (Kd.R_new' ho0 (Kd.R_lt (Kd.R_p HO_284003))) (Kd.R_lt (Kd.R_p HO_284004))) (Kd.R_lt (Kd.R_p HO_284005))) (Kd.R_lt (Kd.R_p HO_311003))) (Kd.R_lt (Kd.R_p HO_311004))) (Kd.R_lt (Kd.R_p HO_311005))) (below_size (hb_ HB))); have HO343 := Aside0.mk (Kd.R_lower (Kd.R_new' (Kd.R_new' (Kd.R_new' (Kd.R_new' (Kd.R_new' (Kd.R_new' ho1 (Kd.R_lt (Kd.R_p HO_284003))) (Kd.R_lt (Kd.R_p HO_284004))) (Kd.R_lt (Kd.R_p HO_284005))) (Kd.R_lt (Kd.R_p HO_311003))) (Kd.R_lt (Kd.R_p HO_311004))) (Kd.R_lt (Kd.R_p HO_311005))) (below_size (hb_ HB))); have HO346 := Aside0.mk (Kd.R_lower (Kd.R_new' (Kd.R_new' (Kd.R_new' (Kd.R_new' (Kd.R_new' (Kd.R_new' ho2 (Kd.R_lt (Kd.R_p HO_284003))) (Kd.R_lt (Kd.R_p HO_284004))) (Kd.R_lt (Kd.R_p HO_284005))) (Kd.R_lt (Kd.R_p HO_311003))) (Kd.R_lt (Kd.R_p HO_311004))) (Kd.R_lt (Kd.R_p HO_311005))) (below_size (hb_ HB))); replace HO_284003 := Kd.R_e3 HO_284003 ho0 ho1 ho2 hb; replace HO_284004 := Kd.R_e3 HO_284004 ho0 ho1 ho2 hb; replace HO_284005 := Kd.R_e3 HO_284005 ho0 ho1 ho2 hb; replace HO_311003 := Kd.R_e3 HO_311003 ho0 ho1 ho2 hb; replace HO_311004 := Kd.R_e3 HO_311004 ho0 ho1 ho2 hb; replace HO_311005 := Kd.R_e3 HO_311005 ho0 ho1 ho2 hb; replace BK256 := kb_ BK256 hb; replace BK283 := kb_ BK283 hb; replace BK310 := kb_ BK310 hb; replace HB := hbs_ HB hb; (try clear hb); (try clear hb2); (try clear hk); (try clear hi); (try clear ho0); (try clear ho1); (try clear ho2); try clear BK256; try clear GW256; try clear GE256; try clear NB256_283; try clear NB283_256; try clear NB256_310; try clear NB310_256; obtain ⟨Ao126, co126, eo126⟩ := Kd.R_slice HO340.out; subst eo126; obtain ⟨Ao127, co127, eo127⟩ := Kd.R_slice HO343.out; subst eo127; obtain ⟨Ao128, co128, eo128⟩ := Kd.R_slice HO346.out; subst eo128) | ((with_reducible refine gate_callee (f := 10) rfl ?_); refine gl_ (some 96) Try.func10 #[.agg #[.int .i64 t335, .int .i64 t336, .int .i64 t337, .slice Ao126 t338.length co126, .slice Ao127 t341.length co127, .slice Ao128 t344.length co128], .int .i64 a1, .int .i64 a2, .int .i64 a3, .int .i64 a4] rfl rfl rfl ?_; (with_reducible refine (impl_SetBlock.calls kj71 t335 t336 t337 _ _ t338 _ _ t341 _ _ t344 a1 a2 a3 a4 t347 t348 t349 t350 t353 t356 t359 _ ?side1 ?side2 ?side3 ?side4 ?side5 ?side6 A115.out).mono ?_); (case side1 => exact Kd.C_o HO340); (case side2 => exact (Kd.R_reads' HO340.out).2.1); (case side3 => exact Kd.C_o HO343); (case side4 => exact (Kd.R_reads' HO343.out).2.1); (case side5 => exact Kd.C_o HO346); (case side6 => exact (Kd.R_reads' HO346.out).2.1); rintro e w129 ⟨v351, v354, v357, rfl, ho0, ho1, ho2, hb⟩; refine ⟨_, rfl, ?_⟩; have HO352 := Aside0.mk (Kd.R_lower (Kd.R_new' (Kd.R_new' (Kd.R_new' (Kd.R_new' (Kd.R_new' (Kd.R_new' (Kd.R_new' (Kd.R_new' (Kd.R_new' ho0 (Kd.R_lt (Kd.R_p HO_284003))) (Kd.R_lt (Kd.R_p HO_284004))) (Kd.R_lt (Kd.R_p HO_284005))) (Kd.R_lt (Kd.R_p HO_311003))) (Kd.R_lt (Kd.R_p HO_311004))) (Kd.R_lt (Kd.R_p HO_311005))) (Kd.R_lt (Kd.R_p HO340))) (Kd.R_lt (Kd.R_p HO343))) (Kd.R_lt (Kd.R_p HO346))) (below_size (hb_ HB))); have HO355 := Aside0.mk (Kd.R_lower (Kd.R_new' (Kd.R_new' (Kd.R_new' (Kd.R_new' (Kd.R_new' (Kd.R_new' (Kd.R_new' (Kd.R_new' (Kd.R_new' ho1 (Kd.R_lt (Kd.R_p HO_284003))) (Kd.R_lt (Kd.R_p HO_284004))) (Kd.R_lt (Kd.R_p HO_284005))) (Kd.R_lt (Kd.R_p HO_311003))) (Kd.R_lt (Kd.R_p HO_311004))) (Kd.R_lt (Kd.R_p HO_311005))) (Kd.R_lt (Kd.R_p HO340))) (Kd.R_lt (Kd.R_p HO343))) (Kd.R_lt (Kd.R_p HO346))) (below_size (hb_ HB))); have HO358 := Aside0.mk (Kd.R_lower (Kd.R_new' (Kd.R_new' (Kd.R_new' (Kd.R_new' (Kd.R_new' (Kd.R_new' (Kd.R_new' (Kd.R_new' (Kd.R_new' ho2 (Kd.R_lt (Kd.R_p HO_284003))) (Kd.R_lt (Kd.R_p HO_284004))) (Kd.R_lt (Kd.R_p HO_284005))) (Kd.R_lt (Kd.R_p HO_311003))) (Kd.R_lt (Kd.R_p HO_311004))) (Kd.R_lt (Kd.R_p HO_311005))) (Kd.R_lt (Kd.R_p HO340))) (Kd.R_lt (Kd.R_p HO343))) (Kd.R_lt (Kd.R_p HO346))) (below_size (hb_ HB))); replace HO_284003 := Kd.R_e3 HO_284003 ho0 ho1 ho2 hb; replace HO_284004 := Kd.R_e3 HO_284004 ho0 ho1 ho2 hb; replace HO_284005 := Kd.R_e3 HO_284005 ho0 ho1 ho2 hb; replace HO_311003 := Kd.R_e3 HO_311003 ho0 ho1 ho2 hb; replace HO_311004 := Kd.R_e3 HO_311004 ho0 ho1 ho2 hb; replace HO_311005 := Kd.R_e3 HO_311005 ho0 ho1 ho2 hb; replace HO340 := Kd.R_e3 HO340 ho0 ho1 ho2 hb; replace HO343 := Kd.R_e3 HO343 ho0 ho1 ho2 hb; replace HO346 := Kd.R_e3 HO346 ho0 ho1 ho2 hb; replace BK283 := kb_ BK283 hb; replace BK310 := kb_ BK310 hb; replace HB := hbs_ HB hb; (try clear hb); (try clear hb2); (try clear hk); (try clear hi); (try clear ho0); (try clear ho1); (try clear ho2); try clear HO340; try clear HO343; try clear HO346) | ((with_reducible refine gate_dst (N := 20) rfl ?_); refine box_event ?hg (N := 20) ?hd (cs := #[.int .i64 0, .int .i64 0, .int .i64 0, .slice none 0 0, .slice none 0 0, .slice none 0 0]) (t := 30) ?hr ?_; (case hd => rfl); (case hg => rfl); (case hr => first | (go_simp; done) | (go_simp; rfl)); intro gb360 hg w130 hbox hb; have BK360 := Aside0.mk (hbox); have GW360 := gs_ hg HB; have GE360 := gs_ hg HB; have NB283_360 := nl_ hg BK283; have NB360_283 := ng_ hg BK283; have NB310_360 := nl_ hg BK310; have NB360_310 := ng_ hg BK310; replace HO_284003 := Kd.R_b HO_284003 hb; replace HO_284004 := Kd.R_b HO_284004 hb; replace HO_284005 := Kd.R_b HO_284005 hb; replace HO_311003 := Kd.R_b HO_311003 hb; replace HO_311004 := Kd.R_b HO_311004 hb; replace HO_311005 := Kd.R_b HO_311005 hb; replace HO352 := Kd.R_b HO352 hb; replace HO355 := Kd.R_b HO355 hb; replace HO358 := Kd.R_b HO358 hb; replace BK283 := kb_ BK283 hb; replace BK310 := kb_ BK310 hb; replace HB := hbs_ HB hb; clear hb hbox hg; have hnb131 := NB360_283.out; have hnc131 := NB283_360.out; have hnb132 := NB360_310.out; have hnc132 := NB310_360.out; obtain ⟨hcz133_0, hcz133_1, hcz133_2, hcz133_3, hcz133_4, hcz133_5, hfz133_0, hfz133_1, hfz133_2, hfz133_3, hfz133_4, hfz133_5⟩ := bx6 BK360; obtain ⟨Ao134, co134, eo134⟩ := Kd.R_slice HO352.out; subst eo134; obtain ⟨Ao135, co135, eo135⟩ := Kd.R_slice HO355.out; subst eo135; obtain ⟨Ao136, co136, eo136⟩ := Kd.R_slice HO358.out; subst eo136))
           (try simp only [Act.put, List.setIfInBounds_toArray, List.set_cons_zero, List.set_cons_succ])
           go_cut [107] (fun v107 wc => ∃ (kq : Nat) (x107_115 : Bool), v107 = .bool x107_115 ∧ Aside0 (laws_FnExactSetBlock.j2 kq t330 x107_115 t297 t298 t299 t331 t332 t333 = some r) ∧ Aside0 (kq ≤ kj71) ∧ Aside0 (Kd.R (Kd.int .i64) 3 wc w.heap.size (fun k_ => some k_ ≠ ((.slice Ao47 t303.length co47) : Value).ownBlock ∧ some k_ ≠ ((.slice Ao48 t306.length co48) : Value).ownBlock) (.slice Ao46 t300.length co46) t331) ∧ Aside0 (Kd.R (Kd.int .i64) 3 wc w.heap.size (fun k_ => some k_ ≠ ((.slice Ao46 t300.length co46) : Value).ownBlock ∧ some k_ ≠ ((.slice Ao48 t306.length co48) : Value).ownBlock) (.slice Ao47 t303.length co47) t332) ∧ Aside0 (Kd.R (Kd.int .i64) 3 wc w.heap.size (fun k_ => some k_ ≠ ((.slice Ao46 t300.length co46) : Value).ownBlock ∧ some k_ ≠ ((.slice Ao47 t303.length co47) : Value).ownBlock) (.slice Ao48 t306.length co48) t333) ∧ Aside0 (wc.heap[gb310]? = some (.cells #[.int .i64 t297, .int .i64 t298, .int .i64 t299, (.slice Ao46 t300.length co46), (.slice Ao47 t303.length co47), (.slice Ao48 t306.length co48)] 30 (0, 0))) ∧ Aside0 (Below w.heap.size w wc))
           case first =>
            have H := HC116.out
            clear HC116
            replace H := Option.bind_eq_some_iff.mp H
            obtain ⟨t361, A1370, H⟩ := H
            replace H : (if t361 = true then (laws_FnExactSetBlock.j2 kj71 t330 (t359 != t282) t297 t298 t299 t331 t332 t333) else (laws_FnExactSetBlock.j2 kj71 t330 true t297 t298 t299 t331 t332 t333)) = some r := H
            have A137 := Aside0.mk A1370
            clear A1370
            by_cases c138 : t361 = true
            ·subst c138
             have H1 : (laws_FnExactSetBlock.j2 kj71 t330 (t359 != t282) t297 t298 t299 t331 t332 t333) = some r := by rw [if_pos rfl] at H; exact H
             clear H
             have H := H1
             clear H1
             have H' := Aside0.mk H
             clear H
             have hnb139 := NB360_283.out
             have hnc139 := NB283_360.out
             have hnb140 := NB360_310.out
             have hnc140 := NB310_360.out
             have hcz141_0 : w130.cell? ⟨gb360, 0, none⟩ = some (.int .i64 0) := (blk_cell BK360.out 0).trans rfl
             have hcz141_1 : w130.cell? ⟨gb360, 1, none⟩ = some (.int .i64 0) := (blk_cell BK360.out 1).trans rfl
             have hcz141_2 : w130.cell? ⟨gb360, 2, none⟩ = some (.int .i64 0) := (blk_cell BK360.out 2).trans rfl
             have hcz141_3 : w130.cell? ⟨gb360, 3, none⟩ = some (.slice none 0 0) := (blk_cell BK360.out 3).trans rfl
             have hcz141_4 : w130.cell? ⟨gb360, 4, none⟩ = some (.slice none 0 0) := (blk_cell BK360.out 4).trans rfl
             have hcz141_5 : w130.cell? ⟨gb360, 5, none⟩ = some (.slice none 0 0) := (blk_cell BK360.out 5).trans rfl
             have hfz141_0 := blk_frozen BK360.out 0
             have hfz141_1 := blk_frozen BK360.out 1
             have hfz141_2 := blk_frozen BK360.out 2
             have hfz141_3 := blk_frozen BK360.out 3
             have hfz141_4 := blk_frozen BK360.out 4
             have hfz141_5 := blk_frozen BK360.out 5
             have hnb142 := NB283_310.out
             have hnc142 := NB310_283.out
             have hcz143_0 : w130.cell? ⟨gb283, 0, none⟩ = some (.int .i64 t270) := (blk_cell BK283.out 0).trans rfl
             have hcz143_1 : w130.cell? ⟨gb283, 1, none⟩ = some (.int .i64 t271) := (blk_cell BK283.out 1).trans rfl
             have hcz143_2 : w130.cell? ⟨gb283, 2, none⟩ = some (.int .i64 t272) := (blk_cell BK283.out 2).trans rfl
             have hcz143_3 : w130.cell? ⟨gb283, 3, none⟩ = some (.slice Ao28 t273.length co28) := (blk_cell BK283.out 3).trans rfl
             have hcz143_4 : w130.cell? ⟨gb283, 4, none⟩ = some (.slice Ao29 t276.length co29) := (blk_cell BK283.out 4).trans rfl
             have hcz143_5 : w130.cell? ⟨gb283, 5, none⟩ = some (.slice Ao30 t279.length co30) := (blk_cell BK283.out 5).trans rfl
             have hfz143_0 := blk_frozen BK283.out 0
             have hfz143_1 := blk_frozen BK283.out 1
             have hfz143_2 := blk_frozen BK283.out 2
             have hfz143_3 := blk_frozen BK283.out 3
             have hfz143_4 := blk_frozen BK283.out 4
             have hfz143_5 := blk_frozen BK283.out 5
             go_wp2_with (first | ((with_reducible refine gate_callee (f := 11) rfl ?_); refine gl_ (some 101) Try.func11 #[.agg #[.int .i64 t347, .int .i64 t348, .int .i64 t349, .slice Ao134 t350.length co134, .slice Ao135 t353.length co135, .slice Ao136 t356.length co136], .agg #[.int .i64 t270, .int .i64 t271, .int .i64 t272, .slice Ao28 t273.length co28, .slice Ao29 t276.length co29, .slice Ao30 t279.length co30]] rfl rfl rfl ?_; (with_reducible refine (laws_eqModel.calls kj71 t347 t348 t349 _ _ t350 _ _ t353 _ _ t356 t270 t271 t272 _ _ t273 _ _ t276 _ _ t279 true _ ?side1 ?side2 ?side3 ?side4 ?side5 ?side6 ?side7 ?side8 ?side9 ?side10 ?side11 ?side12 A137.out).mono ?_); (case side1 => exact (Kd.R_reads' (Kd.R_s HO352 BK360)).2.2); (case side2 => exact (Kd.R_reads' HO352.out).2.1); (case side3 => exact (Kd.R_reads' (Kd.R_s HO355 BK360)).2.2); (case side4 => exact (Kd.R_reads' HO355.out).2.1); (case side5 => exact (Kd.R_reads' (Kd.R_s HO358 BK360)).2.2); (case side6 => exact (Kd.R_reads' HO358.out).2.1); (case side7 => exact (Kd.R_reads' (Kd.R_s HO_284003 BK360)).2.2); (case side8 => exact (Kd.R_reads' HO_284003.out).2.1); (case side9 => exact (Kd.R_reads' (Kd.R_s HO_284004 BK360)).2.2); (case side10 => exact (Kd.R_reads' HO_284004.out).2.1); (case side11 => exact (Kd.R_reads' (Kd.R_s HO_284005 BK360)).2.2); (case side12 => exact (Kd.R_reads' HO_284005.out).2.1); rintro e w144 ⟨rfl, hb⟩; refine ⟨_, rfl, ?_⟩; replace HO_284003 := Kd.R_sb HO_284003 BK360 hb; replace HO_284004 := Kd.R_sb HO_284004 BK360 hb; replace HO_284005 := Kd.R_sb HO_284005 BK360 hb; replace HO_311003 := Kd.R_sb HO_311003 BK360 hb; replace HO_311004 := Kd.R_sb HO_311004 BK360 hb; replace HO_311005 := Kd.R_sb HO_311005 BK360 hb; replace HO352 := Kd.R_sb HO352 BK360 hb; replace HO355 := Kd.R_sb HO355 BK360 hb; replace HO358 := Kd.R_sb HO358 BK360 hb; replace BK283 := kfb_ BK283 NB283_360 hb; replace BK310 := kfb_ BK310 NB310_360 hb; replace HB := hbs_ HB hb; replace BK360 := Aside0.mk (blk_below (g := gb360) (o := .cells #[.int .i64 t347, .int .i64 t348, .int .i64 t349, .slice Ao134 t350.length co134, .slice Ao135 t353.length co135, .slice Ao136 t356.length co136] 30 (0, 0)) (kpq_ (kputs BK360 [(0, .int .i64 t347), (1, .int .i64 t348), (2, .int .i64 t349), (3, .slice Ao134 t350.length co134), (4, .slice Ao135 t353.length co135), (5, .slice Ao136 t356.length co136)])) hb); (try clear hb); (try clear hb2); (try clear hk); (try clear hi)))
             go_meet
             case rel => exact ⟨_, ((t359 != t282)), (by first | rfl | (simp; done) | (simp [*]; done)), H', ⟨by have := HJ14.out; have := HJ71.out; first | omega | exact Nat.le_refl _⟩, ⟨Kd.R_pp (Kd.R_mono HO_311003.out (fun _ hk => ⟨hk.1.1.1.1.1.1.2.2.2.1, hk.1.1.1.1.1.1.2.2.2.2⟩))⟩, ⟨Kd.R_pp (Kd.R_mono HO_311004.out (fun _ hk => ⟨hk.1.1.1.1.1.1.2.2.2.1, hk.1.1.1.1.1.1.2.2.2.2⟩))⟩, ⟨Kd.R_pp (Kd.R_mono HO_311005.out (fun _ hk => ⟨hk.1.1.1.1.1.1.2.2.2.1, hk.1.1.1.1.1.1.2.2.2.2⟩))⟩, ⟨kp_ BK310⟩, ⟨hb_ HB⟩⟩
            ·replace c138 := Bool.eq_false_iff.mpr c138
             subst c138
             have H1 : (laws_FnExactSetBlock.j2 kj71 t330 true t297 t298 t299 t331 t332 t333) = some r := by rw [if_neg (show ¬ (false = true) by decide)] at H; exact H
             clear H
             have H := H1
             clear H1
             have H' := Aside0.mk H
             clear H
             have hnb145 := NB360_283.out
             have hnc145 := NB283_360.out
             have hnb146 := NB360_310.out
             have hnc146 := NB310_360.out
             have hcz147_0 : w130.cell? ⟨gb360, 0, none⟩ = some (.int .i64 0) := (blk_cell BK360.out 0).trans rfl
             have hcz147_1 : w130.cell? ⟨gb360, 1, none⟩ = some (.int .i64 0) := (blk_cell BK360.out 1).trans rfl
             have hcz147_2 : w130.cell? ⟨gb360, 2, none⟩ = some (.int .i64 0) := (blk_cell BK360.out 2).trans rfl
             have hcz147_3 : w130.cell? ⟨gb360, 3, none⟩ = some (.slice none 0 0) := (blk_cell BK360.out 3).trans rfl
             have hcz147_4 : w130.cell? ⟨gb360, 4, none⟩ = some (.slice none 0 0) := (blk_cell BK360.out 4).trans rfl
             have hcz147_5 : w130.cell? ⟨gb360, 5, none⟩ = some (.slice none 0 0) := (blk_cell BK360.out 5).trans rfl
             have hfz147_0 := blk_frozen BK360.out 0
             have hfz147_1 := blk_frozen BK360.out 1
             have hfz147_2 := blk_frozen BK360.out 2
             have hfz147_3 := blk_frozen BK360.out 3
             have hfz147_4 := blk_frozen BK360.out 4
             have hfz147_5 := blk_frozen BK360.out 5
             have hnb148 := NB283_310.out
             have hnc148 := NB310_283.out
             have hcz149_0 : w130.cell? ⟨gb283, 0, none⟩ = some (.int .i64 t270) := (blk_cell BK283.out 0).trans rfl
             have hcz149_1 : w130.cell? ⟨gb283, 1, none⟩ = some (.int .i64 t271) := (blk_cell BK283.out 1).trans rfl
             have hcz149_2 : w130.cell? ⟨gb283, 2, none⟩ = some (.int .i64 t272) := (blk_cell BK283.out 2).trans rfl
             have hcz149_3 : w130.cell? ⟨gb283, 3, none⟩ = some (.slice Ao28 t273.length co28) := (blk_cell BK283.out 3).trans rfl
             have hcz149_4 : w130.cell? ⟨gb283, 4, none⟩ = some (.slice Ao29 t276.length co29) := (blk_cell BK283.out 4).trans rfl
             have hcz149_5 : w130.cell? ⟨gb283, 5, none⟩ = some (.slice Ao30 t279.length co30) := (blk_cell BK283.out 5).trans rfl
             have hfz149_0 := blk_frozen BK283.out 0
             have hfz149_1 := blk_frozen BK283.out 1
             have hfz149_2 := blk_frozen BK283.out 2
             have hfz149_3 := blk_frozen BK283.out 3
             have hfz149_4 := blk_frozen BK283.out 4
             have hfz149_5 := blk_frozen BK283.out 5
             go_wp2_with (first | ((with_reducible refine gate_callee (f := 11) rfl ?_); refine gl_ (some 101) Try.func11 #[.agg #[.int .i64 t347, .int .i64 t348, .int .i64 t349, .slice Ao134 t350.length co134, .slice Ao135 t353.length co135, .slice Ao136 t356.length co136], .agg #[.int .i64 t270, .int .i64 t271, .int .i64 t272, .slice Ao28 t273.length co28, .slice Ao29 t276.length co29, .slice Ao30 t279.length co30]] rfl rfl rfl ?_; (with_reducible refine (laws_eqModel.calls kj71 t347 t348 t349 _ _ t350 _ _ t353 _ _ t356 t270 t271 t272 _ _ t273 _ _ t276 _ _ t279 false _ ?side1 ?side2 ?side3 ?side4 ?side5 ?side6 ?side7 ?side8 ?side9 ?side10 ?side11 ?side12 A137.out).mono ?_); (case side1 => exact (Kd.R_reads' (Kd.R_s HO352 BK360)).2.2); (case side2 => exact (Kd.R_reads' HO352.out).2.1); (case side3 => exact (Kd.R_reads' (Kd.R_s HO355 BK360)).2.2); (case side4 => exact (Kd.R_reads' HO355.out).2.1); (case side5 => exact (Kd.R_reads' (Kd.R_s HO358 BK360)).2.2); (case side6 => exact (Kd.R_reads' HO358.out).2.1); (case side7 => exact (Kd.R_reads' (Kd.R_s HO_284003 BK360)).2.2); (case side8 => exact (Kd.R_reads' HO_284003.out).2.1); (case side9 => exact (Kd.R_reads' (Kd.R_s HO_284004 BK360)).2.2); (case side10 => exact (Kd.R_reads' HO_284004.out).2.1); (case side11 => exact (Kd.R_reads' (Kd.R_s HO_284005 BK360)).2.2); (case side12 => exact (Kd.R_reads' HO_284005.out).2.1); rintro e w150 ⟨rfl, hb⟩; refine ⟨_, rfl, ?_⟩; replace HO_284003 := Kd.R_sb HO_284003 BK360 hb; replace HO_284004 := Kd.R_sb HO_284004 BK360 hb; replace HO_284005 := Kd.R_sb HO_284005 BK360 hb; replace HO_311003 := Kd.R_sb HO_311003 BK360 hb; replace HO_311004 := Kd.R_sb HO_311004 BK360 hb; replace HO_311005 := Kd.R_sb HO_311005 BK360 hb; replace HO352 := Kd.R_sb HO352 BK360 hb; replace HO355 := Kd.R_sb HO355 BK360 hb; replace HO358 := Kd.R_sb HO358 BK360 hb; replace BK283 := kfb_ BK283 NB283_360 hb; replace BK310 := kfb_ BK310 NB310_360 hb; replace HB := hbs_ HB hb; replace BK360 := Aside0.mk (blk_below (g := gb360) (o := .cells #[.int .i64 t347, .int .i64 t348, .int .i64 t349, .slice Ao134 t350.length co134, .slice Ao135 t353.length co135, .slice Ao136 t356.length co136] 30 (0, 0)) (kpq_ (kputs BK360 [(0, .int .i64 t347), (1, .int .i64 t348), (2, .int .i64 t349), (3, .slice Ao134 t350.length co134), (4, .slice Ao135 t353.length co135), (5, .slice Ao136 t356.length co136)])) hb); (try clear hb); (try clear hb2); (try clear hk); (try clear hi)))
             go_meet
             case rel => exact ⟨_, (true), (by first | rfl | (simp; done) | (simp [*]; done)), H', ⟨by have := HJ14.out; have := HJ71.out; first | omega | exact Nat.le_refl _⟩, ⟨Kd.R_pp (Kd.R_mono HO_311003.out (fun _ hk => ⟨hk.1.1.1.1.1.1.2.2.2.1, hk.1.1.1.1.1.1.2.2.2.2⟩))⟩, ⟨Kd.R_pp (Kd.R_mono HO_311004.out (fun _ hk => ⟨hk.1.1.1.1.1.1.2.2.2.1, hk.1.1.1.1.1.1.2.2.2.2⟩))⟩, ⟨Kd.R_pp (Kd.R_mono HO_311005.out (fun _ hk => ⟨hk.1.1.1.1.1.1.2.2.2.1, hk.1.1.1.1.1.1.2.2.2.2⟩))⟩, ⟨kp_ BK310⟩, ⟨hb_ HB⟩⟩
           case rest =>
            clear HC116
            (try clear c1); (try clear c2); (try clear p2); (try clear c3); (try clear c4); (try clear c5); (try clear c6); (try clear c7); (try clear c7b0); (try clear c8); (try clear c9); (try clear c10); (try clear c11); (try clear c12); (try clear c13); (try clear c14); (try clear c26); (try clear c34); (try clear c35); (try clear c42); (try clear c43); (try clear c44); (try clear c50); (try clear c51); (try clear c52); (try clear c53); (try clear c55); (try clear c56); (try clear c59); (try clear c60); (try clear c61); (try clear c63); (try clear c64); (try clear c67); (try clear c70); (try clear c79); (try clear c80); (try clear c81); (try clear c84); (try clear c84b0); (try clear c86); (try clear c87); (try clear c88); (try clear c89); (try clear c91); (try clear c92); (try clear c95); (try clear c96); (try clear c97); (try clear c99); (try clear c100); (try clear c103); (try clear c106); (try clear c106b0); (try clear c107); (try clear c108); (try clear c113); (try clear c113b0); (try clear c113b1); (try clear c117); (try clear c118); (try clear c123); (try clear c131); (try clear c132); (try clear c138); (try clear c139); (try clear c140); (try clear c142); (try clear c145); (try clear c146); (try clear c148); (try clear hcz119_0); (try clear hcz119_1); (try clear hcz119_2); (try clear hcz119_3); (try clear hcz119_4); (try clear hcz119_5); (try clear hcz121_0); (try clear hcz121_1); (try clear hcz121_2); (try clear hcz121_3); (try clear hcz121_4); (try clear hcz121_5); (try clear hcz124_0); (try clear hcz124_1); (try clear hcz124_2); (try clear hcz124_3); (try clear hcz124_4); (try clear hcz124_5); (try clear hcz133_0); (try clear hcz133_1); (try clear hcz133_2); (try clear hcz133_3); (try clear hcz133_4); (try clear hcz133_5); (try clear hfz119_0); (try clear hfz119_1); (try clear hfz119_2); (try clear hfz119_3); (try clear hfz119_4); (try clear hfz119_5); (try clear hfz121_0); (try clear hfz121_1); (try clear hfz121_2); (try clear hfz121_3); (try clear hfz121_4); (try clear hfz121_5); (try clear hfz124_0); (try clear hfz124_1); (try clear hfz124_2); (try clear hfz124_3); (try clear hfz124_4); (try clear hfz124_5); (try clear hfz133_0); (try clear hfz133_1); (try clear hfz133_2); (try clear hfz133_3); (try clear hfz133_4); (try clear hfz133_5)
            obtain ⟨kq, x107_115, rfl, HA, HJ115, HO_311003, HO_311004, HO_311005, BK310, HB⟩ := hcut
            have hl311003_115 := (Kd.R_reads' HO_311003.out).1
            rw [hl311003_115] at HO_311003
            (try simp only [hl311003_115])
            (try simp only [hl311003_115] at BK310)
            (try simp only [hl311003_115] at HO_311004)
            (try simp only [hl311003_115] at HO_311005)
            have hl311004_115 := (Kd.R_reads' HO_311004.out).1
            rw [hl311004_115] at HO_311004
            (try simp only [hl311004_115])
            (try simp only [hl311004_115] at BK310)
            (try simp only [hl311004_115] at HO_311003)
            (try simp only [hl311004_115] at HO_311005)
            have hl311005_115 := (Kd.R_reads' HO_311005.out).1
            rw [hl311005_115] at HO_311005
            (try simp only [hl311005_115])
            (try simp only [hl311005_115] at BK310)
            (try simp only [hl311005_115] at HO_311003)
            (try simp only [hl311005_115] at HO_311004)
            cases kq with
            | zero => exact absurd HA.out (by simp [laws_FnExactSetBlock.j2])
            | succ kj115 =>
             have H := HA.out
             clear HA
             simp only [laws_FnExactSetBlock.j2] at H
             by_cases c151 : x107_115 = true
             ·subst c151
              have H1 : (some false) = some r := by rw [if_pos rfl] at H; exact H
              clear H
              have H := H1
              clear H1
              obtain rfl := Option.some.inj H
              go_wp2
              go_ret
              exact ⟨by first | rfl | (simp [errW_none, errW_some] <;> rfl) | (simp [*, errW_none, errW_some] <;> rfl), hb_ HB⟩
             ·replace c151 := Bool.eq_false_iff.mpr c151
              subst c151
              have H1 : ((laws_heldModel.f kj115 t297 t298 t299 t331 t332 t333 1).bind fun t362 => (if t362 < 0 then (some false) else (if t362 = t330 then (some true) else (some false)))) = some r := by rw [if_neg (show ¬ (false = true) by decide)] at H; exact H
              clear H
              have H := H1
              clear H1
              replace H := Option.bind_eq_some_iff.mp H
              obtain ⟨t362, A1520, H⟩ := H
              replace H : (if t362 < 0 then (some false) else (if t362 = t330 then (some true) else (some false))) = some r := H
              have A152 := Aside0.mk A1520
              clear A1520
              by_cases c153 : t362 < 0
              ·rw [if_pos c153] at H
               have c153b0 : decide (t362 < 0) = true := decide_eq_true c153
               clear c153
               obtain rfl := Option.some.inj H
               have hcz154_0 : wc.cell? ⟨gb310, 0, none⟩ = some (.int .i64 t297) := (blk_cell BK310.out 0).trans rfl
               have hcz154_1 : wc.cell? ⟨gb310, 1, none⟩ = some (.int .i64 t298) := (blk_cell BK310.out 1).trans rfl
               have hcz154_2 : wc.cell? ⟨gb310, 2, none⟩ = some (.int .i64 t299) := (blk_cell BK310.out 2).trans rfl
               have hcz154_3 : wc.cell? ⟨gb310, 3, none⟩ = some (.slice Ao46 t331.length co46) := (blk_cell BK310.out 3).trans rfl
               have hcz154_4 : wc.cell? ⟨gb310, 4, none⟩ = some (.slice Ao47 t332.length co47) := (blk_cell BK310.out 4).trans rfl
               have hcz154_5 : wc.cell? ⟨gb310, 5, none⟩ = some (.slice Ao48 t333.length co48) := (blk_cell BK310.out 5).trans rfl
               have hfz154_0 := blk_frozen BK310.out 0
               have hfz154_1 := blk_frozen BK310.out 1
               have hfz154_2 := blk_frozen BK310.out 2
               have hfz154_3 := blk_frozen BK310.out 3
               have hfz154_4 := blk_frozen BK310.out 4
               have hfz154_5 := blk_frozen BK310.out 5
               go_wp2_with (first | ((with_reducible refine gate_callee (f := 13) rfl ?_); refine gl_ (some 110) Try.func13 #[.agg #[.int .i64 t297, .int .i64 t298, .int .i64 t299, .slice Ao46 t331.length co46, .slice Ao47 t332.length co47, .slice Ao48 t333.length co48], .int .i64 1] rfl rfl rfl ?_; (with_reducible refine (laws_heldModel.calls kj115 t297 t298 t299 _ _ t331 _ _ t332 _ _ t333 1 t362 _ ?side1 ?side2 ?side3 ?side4 ?side5 ?side6 A152.out).mono ?_); (case side1 => exact Kd.C_o HO_311003); (case side2 => exact (Kd.R_reads' HO_311003.out).2.1); (case side3 => exact Kd.C_o HO_311004); (case side4 => exact (Kd.R_reads' HO_311004.out).2.1); (case side5 => exact Kd.C_o HO_311005); (case side6 => exact (Kd.R_reads' HO_311005.out).2.1); rintro e w155 ⟨rfl, hb⟩; refine ⟨_, rfl, ?_⟩; replace HO_311003 := Kd.R_b HO_311003 hb; replace HO_311004 := Kd.R_b HO_311004 hb; replace HO_311005 := Kd.R_b HO_311005 hb; replace BK310 := kb_ BK310 hb; replace HB := hbs_ HB hb; (try clear hb); (try clear hb2); (try clear hk); (try clear hi)))
               go_ret
               exact ⟨by first | rfl | (simp [errW_none, errW_some] <;> rfl) | (simp [*, errW_none, errW_some] <;> rfl), hb_ HB⟩
              ·rw [if_neg c153] at H
               have c153b0 : decide (t362 < 0) = false := decide_eq_false c153
               clear c153
               by_cases c156 : t362 = t330
               ·rw [if_pos c156] at H
                have c156b0 : (t362 == t330) = true := beq_iff_eq.mpr c156
                have c156b1 : (t362 != t330) = false := bne_eq_false_iff_eq.mpr c156
                clear c156
                obtain rfl := Option.some.inj H
                have hcz157_0 : wc.cell? ⟨gb310, 0, none⟩ = some (.int .i64 t297) := (blk_cell BK310.out 0).trans rfl
                have hcz157_1 : wc.cell? ⟨gb310, 1, none⟩ = some (.int .i64 t298) := (blk_cell BK310.out 1).trans rfl
                have hcz157_2 : wc.cell? ⟨gb310, 2, none⟩ = some (.int .i64 t299) := (blk_cell BK310.out 2).trans rfl
                have hcz157_3 : wc.cell? ⟨gb310, 3, none⟩ = some (.slice Ao46 t331.length co46) := (blk_cell BK310.out 3).trans rfl
                have hcz157_4 : wc.cell? ⟨gb310, 4, none⟩ = some (.slice Ao47 t332.length co47) := (blk_cell BK310.out 4).trans rfl
                have hcz157_5 : wc.cell? ⟨gb310, 5, none⟩ = some (.slice Ao48 t333.length co48) := (blk_cell BK310.out 5).trans rfl
                have hfz157_0 := blk_frozen BK310.out 0
                have hfz157_1 := blk_frozen BK310.out 1
                have hfz157_2 := blk_frozen BK310.out 2
                have hfz157_3 := blk_frozen BK310.out 3
                have hfz157_4 := blk_frozen BK310.out 4
                have hfz157_5 := blk_frozen BK310.out 5
                go_wp2_with (first | ((with_reducible refine gate_callee (f := 13) rfl ?_); refine gl_ (some 110) Try.func13 #[.agg #[.int .i64 t297, .int .i64 t298, .int .i64 t299, .slice Ao46 t331.length co46, .slice Ao47 t332.length co47, .slice Ao48 t333.length co48], .int .i64 1] rfl rfl rfl ?_; (with_reducible refine (laws_heldModel.calls kj115 t297 t298 t299 _ _ t331 _ _ t332 _ _ t333 1 t362 _ ?side1 ?side2 ?side3 ?side4 ?side5 ?side6 A152.out).mono ?_); (case side1 => exact Kd.C_o HO_311003); (case side2 => exact (Kd.R_reads' HO_311003.out).2.1); (case side3 => exact Kd.C_o HO_311004); (case side4 => exact (Kd.R_reads' HO_311004.out).2.1); (case side5 => exact Kd.C_o HO_311005); (case side6 => exact (Kd.R_reads' HO_311005.out).2.1); rintro e w158 ⟨rfl, hb⟩; refine ⟨_, rfl, ?_⟩; replace HO_311003 := Kd.R_b HO_311003 hb; replace HO_311004 := Kd.R_b HO_311004 hb; replace HO_311005 := Kd.R_b HO_311005 hb; replace BK310 := kb_ BK310 hb; replace HB := hbs_ HB hb; (try clear hb); (try clear hb2); (try clear hk); (try clear hi)))
                go_ret
                exact ⟨by first | rfl | (simp [errW_none, errW_some] <;> rfl) | (simp [*, errW_none, errW_some] <;> rfl), hb_ HB⟩
               ·rw [if_neg c156] at H
                have c156b0 : (t362 == t330) = false := beq_eq_false_iff_ne.mpr c156
                have c156b1 : (t362 != t330) = true := bne_iff_ne.mpr c156
                obtain rfl := Option.some.inj H
                have hcz159_0 : wc.cell? ⟨gb310, 0, none⟩ = some (.int .i64 t297) := (blk_cell BK310.out 0).trans rfl
                have hcz159_1 : wc.cell? ⟨gb310, 1, none⟩ = some (.int .i64 t298) := (blk_cell BK310.out 1).trans rfl
                have hcz159_2 : wc.cell? ⟨gb310, 2, none⟩ = some (.int .i64 t299) := (blk_cell BK310.out 2).trans rfl
                have hcz159_3 : wc.cell? ⟨gb310, 3, none⟩ = some (.slice Ao46 t331.length co46) := (blk_cell BK310.out 3).trans rfl
                have hcz159_4 : wc.cell? ⟨gb310, 4, none⟩ = some (.slice Ao47 t332.length co47) := (blk_cell BK310.out 4).trans rfl
                have hcz159_5 : wc.cell? ⟨gb310, 5, none⟩ = some (.slice Ao48 t333.length co48) := (blk_cell BK310.out 5).trans rfl
                have hfz159_0 := blk_frozen BK310.out 0
                have hfz159_1 := blk_frozen BK310.out 1
                have hfz159_2 := blk_frozen BK310.out 2
                have hfz159_3 := blk_frozen BK310.out 3
                have hfz159_4 := blk_frozen BK310.out 4
                have hfz159_5 := blk_frozen BK310.out 5
                go_wp2_with (first | ((with_reducible refine gate_callee (f := 13) rfl ?_); refine gl_ (some 110) Try.func13 #[.agg #[.int .i64 t297, .int .i64 t298, .int .i64 t299, .slice Ao46 t331.length co46, .slice Ao47 t332.length co47, .slice Ao48 t333.length co48], .int .i64 1] rfl rfl rfl ?_; (with_reducible refine (laws_heldModel.calls kj115 t297 t298 t299 _ _ t331 _ _ t332 _ _ t333 1 t362 _ ?side1 ?side2 ?side3 ?side4 ?side5 ?side6 A152.out).mono ?_); (case side1 => exact Kd.C_o HO_311003); (case side2 => exact (Kd.R_reads' HO_311003.out).2.1); (case side3 => exact Kd.C_o HO_311004); (case side4 => exact (Kd.R_reads' HO_311004.out).2.1); (case side5 => exact Kd.C_o HO_311005); (case side6 => exact (Kd.R_reads' HO_311005.out).2.1); rintro e w160 ⟨rfl, hb⟩; refine ⟨_, rfl, ?_⟩; replace HO_311003 := Kd.R_b HO_311003 hb; replace HO_311004 := Kd.R_b HO_311004 hb; replace HO_311005 := Kd.R_b HO_311005 hb; replace BK310 := kb_ BK310 hb; replace HB := hbs_ HB hb; (try clear hb); (try clear hb2); (try clear hk); (try clear hi)))
                go_ret
                exact ⟨by first | rfl | (simp [errW_none, errW_some] <;> rfl) | (simp [*, errW_none, errW_some] <;> rfl), hb_ HB⟩
          ·rw [if_neg c113] at H
           have c113b0 : (t334 == t330) = false := beq_eq_false_iff_ne.mpr c113
           have c113b1 : (t334 != t330) = true := bne_iff_ne.mpr c113
           obtain rfl := Option.some.inj H
           have hnb161 := NB310_256.out
           have hnc161 := NB256_310.out
           have hnb162 := NB310_283.out
           have hnc162 := NB283_310.out
           have hcz163_0 : wc.cell? ⟨gb310, 0, none⟩ = some (.int .i64 t297) := (blk_cell BK310.out 0).trans rfl
           have hcz163_1 : wc.cell? ⟨gb310, 1, none⟩ = some (.int .i64 t298) := (blk_cell BK310.out 1).trans rfl
           have hcz163_2 : wc.cell? ⟨gb310, 2, none⟩ = some (.int .i64 t299) := (blk_cell BK310.out 2).trans rfl
           have hcz163_3 : wc.cell? ⟨gb310, 3, none⟩ = some (.slice Ao46 t300.length co46) := (blk_cell BK310.out 3).trans rfl
           have hcz163_4 : wc.cell? ⟨gb310, 4, none⟩ = some (.slice Ao47 t303.length co47) := (blk_cell BK310.out 4).trans rfl
           have hcz163_5 : wc.cell? ⟨gb310, 5, none⟩ = some (.slice Ao48 t306.length co48) := (blk_cell BK310.out 5).trans rfl
           have hfz163_0 := blk_frozen BK310.out 0
           have hfz163_1 := blk_frozen BK310.out 1
           have hfz163_2 := blk_frozen BK310.out 2
           have hfz163_3 := blk_frozen BK310.out 3
           have hfz163_4 := blk_frozen BK310.out 4
           have hfz163_5 := blk_frozen BK310.out 5
           (try clear BK256); (try clear GW256); (try clear GE256); (try clear NB256_283); (try clear NB283_256); (try clear NB256_310); (try clear NB310_256); (try clear BK283); (try clear GW283); (try clear GE283); (try clear NB283_256); (try clear NB256_283); (try clear NB283_310); (try clear NB310_283)
           go_wp2_with (first | ((with_reducible refine gate_callee (f := 12) rfl ?_); refine gl_ (some 80) Try.func12 #[.agg #[.int .i64 t297, .int .i64 t298, .int .i64 t299, .slice Ao46 t300.length co46, .slice Ao47 t303.length co47, .slice Ao48 t306.length co48], .int .i64 1] rfl rfl rfl ?_; (with_reducible refine (laws_markModel.calls kj71 t297 t298 t299 (fun k_ => some k_ = (.slice Ao46 t300.length co46 : Value).ownBlock) (.slice Ao46 t300.length co46) t300 (fun k_ => some k_ = (.slice Ao47 t303.length co47 : Value).ownBlock) (.slice Ao47 t303.length co47) t303 (fun k_ => some k_ = (.slice Ao48 t306.length co48 : Value).ownBlock) (.slice Ao48 t306.length co48) t306 1 t330 t331 t332 t333 w _ ?side1 ?side2 ?side3 ?side4 ?side5 ?side6 ?side7 ?side8 ?side9 ?side10 A104.out).mono ?_); (case side1 => repeat (first | (with_reducible first | exact HB.out | apply below_alloc | apply pw_below_drewN | apply below_drew1 | refine below_set ?_ GE310.out) | exact HB.out)); (case side2 => exact Kd.R_tight rfl HO_311003.out); (case side3 => exact fun k_ e_ => (HO_311003.out.1 k_ e_.symm).2.2.2.1); (case side4 => exact fun k_ e_ => (HO_311003.out.1 k_ e_.symm).2.2.2.2); (case side5 => exact Kd.R_tight rfl HO_311004.out); (case side6 => exact fun k_ e_ => (HO_311004.out.1 k_ e_.symm).2.2.2.1); (case side7 => exact fun k_ e_ => (HO_311004.out.1 k_ e_.symm).2.2.2.2); (case side8 => exact Kd.R_tight rfl HO_311005.out); (case side9 => exact fun k_ e_ => (HO_311005.out.1 k_ e_.symm).2.2.2.1); (case side10 => exact fun k_ e_ => (HO_311005.out.1 k_ e_.symm).2.2.2.2); rintro e w164 ⟨rfl, hy0, hy1, hy2, hb, hkp⟩; refine ⟨_, rfl, ?_⟩; replace HO_284003 := Aside0.mk (Kd.R_mono (ok' := fun k_ => some k_ ≠ (.slice Ao29 t276.length co29 : Value).ownBlock ∧ some k_ ≠ (.slice Ao30 t279.length co30 : Value).ownBlock ∧ some k_ ≠ (.slice Ao46 t300.length co46 : Value).ownBlock ∧ some k_ ≠ (.slice Ao47 t303.length co47 : Value).ownBlock ∧ some k_ ≠ (.slice Ao48 t306.length co48 : Value).ownBlock) (Kd.R_keptB (HO_284003.out) hkp (fun k_ hk_ hs_ => Or.elim hs_ (fun e_ => (hk_.2.2.1) e_) (fun e_ => Or.elim e_ (fun e_ => (hk_.2.2.2.1) e_) (fun e_ => (hk_.2.2.2.2) e_)))) (fun k_ hk_ => ⟨hk_.1.1, hk_.1.2.1, hk_.1.2.2.1, hk_.1.2.2.2.1, hk_.1.2.2.2.2⟩)); replace HO_284004 := Aside0.mk (Kd.R_mono (ok' := fun k_ => some k_ ≠ (.slice Ao28 t273.length co28 : Value).ownBlock ∧ some k_ ≠ (.slice Ao30 t279.length co30 : Value).ownBlock ∧ some k_ ≠ (.slice Ao46 t300.length co46 : Value).ownBlock ∧ some k_ ≠ (.slice Ao47 t303.length co47 : Value).ownBlock ∧ some k_ ≠ (.slice Ao48 t306.length co48 : Value).ownBlock) (Kd.R_keptB (HO_284004.out) hkp (fun k_ hk_ hs_ => Or.elim hs_ (fun e_ => (hk_.2.2.1) e_) (fun e_ => Or.elim e_ (fun e_ => (hk_.2.2.2.1) e_) (fun e_ => (hk_.2.2.2.2) e_)))) (fun k_ hk_ => ⟨hk_.1.1, hk_.1.2.1, hk_.1.2.2.1, hk_.1.2.2.2.1, hk_.1.2.2.2.2⟩)); replace HO_284005 := Aside0.mk (Kd.R_mono (ok' := fun k_ => some k_ ≠ (.slice Ao28 t273.length co28 : Value).ownBlock ∧ some k_ ≠ (.slice Ao29 t276.length co29 : Value).ownBlock ∧ some k_ ≠ (.slice Ao46 t300.length co46 : Value).ownBlock ∧ some k_ ≠ (.slice Ao47 t303.length co47 : Value).ownBlock ∧ some k_ ≠ (.slice Ao48 t306.length co48 : Value).ownBlock) (Kd.R_keptB (HO_284005.out) hkp (fun k_ hk_ hs_ => Or.elim hs_ (fun e_ => (hk_.2.2.1) e_) (fun e_ => Or.elim e_ (fun e_ => (hk_.2.2.2.1) e_) (fun e_ => (hk_.2.2.2.2) e_)))) (fun k_ hk_ => ⟨hk_.1.1, hk_.1.2.1, hk_.1.2.2.1, hk_.1.2.2.2.1, hk_.1.2.2.2.2⟩)); replace BK310 := Aside0.mk (blk_kept (kp_ BK310) hkp (fun hs_ => Or.elim hs_ (fun e_ => (fun e_ => (Kd.R_ne HO_311003.out BK310.out (by decide)) e_) e_) (fun e_ => Or.elim e_ (fun e_ => (fun e_ => (Kd.R_ne HO_311004.out BK310.out (by decide)) e_) e_) (fun e_ => (fun e_ => (Kd.R_ne HO_311005.out BK310.out (by decide)) e_) e_)))); replace HB := Aside0.mk (hb); replace HO_311003 := Aside0.mk (Kd.R_reok rfl hy0 (fun k_ e_ => HO_311003.out.1 k_ e_)); replace HO_311004 := Aside0.mk (Kd.R_reok rfl hy1 (fun k_ e_ => HO_311004.out.1 k_ e_)); replace HO_311005 := Aside0.mk (Kd.R_reok rfl hy2 (fun k_ e_ => HO_311005.out.1 k_ e_)); (try clear hb); (try clear hkp); (try clear hy0); (try clear hy1); (try clear hy2); obtain ⟨hcz165_0, hcz165_1, hcz165_2, hcz165_3, hcz165_4, hcz165_5, hfz165_0, hfz165_1, hfz165_2, hfz165_3, hfz165_4, hfz165_5⟩ := bx6 BK310) | ((with_reducible refine gate_callee (f := 13) rfl ?_); refine gl_ (some 83) Try.func13 #[.agg #[.int .i64 t297, .int .i64 t298, .int .i64 t299, .slice Ao46 t331.length co46, .slice Ao47 t332.length co47, .slice Ao48 t333.length co48], .int .i64 1] rfl rfl rfl ?_ (by (try simp only [List.map_toArray, List.map_cons, List.map_nil]); first | done | (rw [show t331.length = t300.length from (Kd.R_reads' HO_311003.out).1.symm, show t332.length = t303.length from (Kd.R_reads' HO_311004.out).1.symm, show t333.length = t306.length from (Kd.R_reads' HO_311005.out).1.symm] <;> rfl) | rfl | (simp only [List.length_drop, List.length_take]; rfl)); (with_reducible refine (laws_heldModel.calls kj71 t297 t298 t299 _ _ t331 _ _ t332 _ _ t333 1 t334 _ ?side1 ?side2 ?side3 ?side4 ?side5 ?side6 A105.out).mono ?_); (case side1 => exact Kd.C_o HO_311003); (case side2 => rw [show t331.length = t300.length from (Kd.R_reads' HO_311003.out).1.symm]; exact (Kd.R_reads' HO_311003.out).2.1); (case side3 => exact Kd.C_o HO_311004); (case side4 => rw [show t332.length = t303.length from (Kd.R_reads' HO_311004.out).1.symm]; exact (Kd.R_reads' HO_311004.out).2.1); (case side5 => exact Kd.C_o HO_311005); (case side6 => rw [show t333.length = t306.length from (Kd.R_reads' HO_311005.out).1.symm]; exact (Kd.R_reads' HO_311005.out).2.1); rintro e w166 ⟨rfl, hb⟩; refine ⟨_, rfl, ?_⟩; replace HO_284003 := Kd.R_b HO_284003 hb; replace HO_284004 := Kd.R_b HO_284004 hb; replace HO_284005 := Kd.R_b HO_284005 hb; replace HO_311003 := Kd.R_b HO_311003 hb; replace HO_311004 := Kd.R_b HO_311004 hb; replace HO_311005 := Kd.R_b HO_311005 hb; replace BK310 := kb_ BK310 hb; replace HB := hbs_ HB hb; (try clear hb); (try clear hb2); (try clear hk); (try clear hi)))
           go_ret
           exact ⟨by first | rfl | (simp [errW_none, errW_some] <;> rfl) | (simp [*, errW_none, errW_some] <;> rfl), hb_ HB⟩
     ·replace c70 := Bool.eq_false_iff.mpr c70
      subst c70
      have H1 : (some false) = some r := by rw [if_neg (show ¬ (false = true) by decide)] at H; exact H
      clear H
      have H := H1
      clear H1
      obtain rfl := Option.some.inj H
      (try clear BK283); (try clear GW283); (try clear GE283); (try clear NB283_256); (try clear NB256_283); (try clear NB283_296); (try clear NB296_283); (try clear NB283_310); (try clear NB310_283); (try clear BK310); (try clear GW310); (try clear GE310); (try clear NB310_256); (try clear NB256_310); (try clear NB310_283); (try clear NB283_310); (try clear NB310_296); (try clear NB296_310)
      try go_wp2
      have n0_ := Aside0.mk (Kd.R_drew HO_284003.out)
      have n1_ := Aside0.mk (Kd.R_drew HO_284004.out)
      have n2_ := Aside0.mk (Kd.R_drew HO_284005.out)
      have n3_ := Aside0.mk (Kd.R_drew HO_297003.out)
      have n4_ := Aside0.mk (Kd.R_drew HO_297004.out)
      have n5_ := Aside0.mk (Kd.R_drew HO_297005.out)
      have n6_ := Aside0.mk (Kd.R_drew HO_311003.out)
      have n7_ := Aside0.mk (Kd.R_drew HO_311004.out)
      have n8_ := Aside0.mk (Kd.R_drew HO_311005.out)
      have n9_ := Aside0.mk (blk_drew BK256.out)
      have n10_ := Aside0.mk (blk_drew BK296.out)
      have n11_ := Aside0.mk (below_drew1 HB.out)
      clear HO_284003
      clear HO_284004
      clear HO_284005
      clear HO_297003
      clear HO_297004
      clear HO_297005
      clear HO_311003
      clear HO_311004
      clear HO_311005
      clear BK256
      clear BK296
      clear HB
      have HO_284003 := n0_
      have HO_284004 := n1_
      have HO_284005 := n2_
      have HO_297003 := n3_
      have HO_297004 := n4_
      have HO_297005 := n5_
      have HO_311003 := n6_
      have HO_311004 := n7_
      have HO_311005 := n8_
      have BK256 := n9_
      have BK296 := n10_
      have HB := n11_
      clear n0_ n1_ n2_ n3_ n4_ n5_ n6_ n7_ n8_ n9_ n10_ n11_
      refine start_ (n := 5) (S := fun w' => w'.cell? ⟨gb296, 0, none⟩ = some (.int .i64 t284) ∧ w'.cell? ⟨gb296, 1, none⟩ = some (.int .i64 t285) ∧ w'.cell? ⟨gb296, 2, none⟩ = some (.int .i64 t286) ∧ w'.cell? ⟨gb296, 3, none⟩ = some (.slice Ao37 t287.length co37) ∧ w'.cell? ⟨gb296, 4, none⟩ = some (.slice Ao38 t290.length co38) ∧ w'.cell? ⟨gb296, 5, none⟩ = some (.slice Ao39 t293.length co39) ∧ w'.cell? ⟨gb256, 0, none⟩ = some (.int .i64 a0_0) ∧ w'.cell? ⟨gb256, 1, none⟩ = some (.int .i64 a0_1) ∧ w'.cell? ⟨gb256, 2, none⟩ = some (.int .i64 a0_2) ∧ w'.cell? ⟨gb256, 3, none⟩ = some (.slice A0_3 l0_3.length c0_3) ∧ w'.cell? ⟨gb256, 4, none⟩ = some (.slice A0_4 l0_4.length c0_4) ∧ w'.cell? ⟨gb256, 5, none⟩ = some (.slice A0_5 l0_5.length c0_5)) (ds := []) #[false, false, false, false, false] (by kernel_rfl) rfl rfl ⟨(blk_cell BK296.out 0).trans rfl, (blk_cell BK296.out 1).trans rfl, (blk_cell BK296.out 2).trans rfl, (blk_cell BK296.out 3).trans rfl, (blk_cell BK296.out 4).trans rfl, (blk_cell BK296.out 5).trans rfl, (blk_cell BK256.out 0).trans rfl, (blk_cell BK256.out 1).trans rfl, (blk_cell BK256.out 2).trans rfl, (blk_cell BK256.out 3).trans rfl, (blk_cell BK256.out 4).trans rfl, (blk_cell BK256.out 5).trans rfl⟩ (fun hHeld => ?_)
      generalize wc.drew = w167 at HO_284003 HO_284004 HO_284005 HO_297003 HO_297004 HO_297005 HO_311003 HO_311004 HO_311005 BK256 BK296 HB hHeld ⊢
      refine take_ (i := 0) (N := some 57) (v := ?_) (a' := ?_) #[true, false, false, false, false] rfl rfl (by kernel_rfl) (fun _ _ _ h => h) (Or.inl ⟨by rfl, ?_⟩) hHeld ?_ ?_
      rotate_left
      ·rintro w' ⟨s0, s1, s2, s3, s4, s5, s6, s7, s8, s9, s10, s11⟩
       go_simp
       with_reducible rfl
      rotate_left
      ·simp only [Act.put, List.setIfInBounds_toArray, List.set_cons_zero, List.set_cons_succ, i64_w, i32_w]
       rfl
      refine take_ (i := 1) (N := some 58) (v := ?_) (a' := ?_) #[true, true, false, false, false] rfl rfl (by kernel_rfl) (fun _ _ _ h => h) (Or.inl ⟨by rfl, ?_⟩) hHeld ?_ ?_
      rotate_left
      ·rintro w' ⟨s0, s1, s2, s3, s4, s5, s6, s7, s8, s9, s10, s11⟩
       go_simp
       with_reducible rfl
      rotate_left
      ·simp only [Act.put, List.setIfInBounds_toArray, List.set_cons_zero, List.set_cons_succ, i64_w, i32_w]
       rfl
      refine one_ (i := 2) (N := some 59) #[true, true, true, false, false] rfl rfl (by kernel_rfl) (by decide) (fun K hK => ?_)
      refine goes_ Try.func9 (by kernel_rfl) rfl #[.agg #[.int .i64 a0_0, .int .i64 a0_1, .int .i64 a0_2, .slice A0_3 l0_3.length c0_3, .slice A0_4 l0_4.length c0_4, .slice A0_5 l0_5.length c0_5]] (by rfl) rfl rfl (by (try simp only [List.map_toArray, List.map_cons, List.map_nil]); first | done | rfl | (simp only [List.length_drop, List.length_take]; rfl)) ?_
      with_reducible refine (laws_toModel.calls kj14 a0_0 a0_1 a0_2 _ _ l0_3 _ _ l0_4 _ _ l0_5 t312 t313 t314 t315 t318 t321 _ ?side1 ?side2 ?side3 ?side4 ?side5 ?side6 A68.out).mono ?_
      (case side1 => exact Kd.C_w HR0_3 HB)
      (case side2 => exact HC0_3.out)
      (case side3 => exact Kd.C_w HR0_4 HB)
      (case side4 => exact HC0_4.out)
      (case side5 => exact Kd.C_w HR0_5 HB)
      (case side6 => exact HC0_5.out)
      rintro e w168 ⟨v316, v319, v322, rfl, ho0, ho1, ho2, hb⟩
      refine ⟨_, rfl, ?_⟩
      have n0_ := Aside0.mk (Kd.R_mono (Kd.R_told (Kd.R_told (Kd.R_told (Kd.R_old (Kd.R_p HO_284003) hb) (Kd.R_base ho0)) (Kd.R_base ho1)) (Kd.R_base ho2)) (fun _ h_ => h_.1))
      have n1_ := Aside0.mk (Kd.R_mono (Kd.R_told (Kd.R_told (Kd.R_told (Kd.R_old (Kd.R_p HO_284004) hb) (Kd.R_base ho0)) (Kd.R_base ho1)) (Kd.R_base ho2)) (fun _ h_ => h_.1))
      have n2_ := Aside0.mk (Kd.R_mono (Kd.R_told (Kd.R_told (Kd.R_told (Kd.R_old (Kd.R_p HO_284005) hb) (Kd.R_base ho0)) (Kd.R_base ho1)) (Kd.R_base ho2)) (fun _ h_ => h_.1))
      have n3_ := Aside0.mk (Kd.R_mono (Kd.R_told (Kd.R_told (Kd.R_told (Kd.R_old (Kd.R_p HO_297003) hb) (Kd.R_base ho0)) (Kd.R_base ho1)) (Kd.R_base ho2)) (fun _ h_ => h_.1))
      have n4_ := Aside0.mk (Kd.R_mono (Kd.R_told (Kd.R_told (Kd.R_told (Kd.R_old (Kd.R_p HO_297004) hb) (Kd.R_base ho0)) (Kd.R_base ho1)) (Kd.R_base ho2)) (fun _ h_ => h_.1))
      have n5_ := Aside0.mk (Kd.R_mono (Kd.R_told (Kd.R_told (Kd.R_told (Kd.R_old (Kd.R_p HO_297005) hb) (Kd.R_base ho0)) (Kd.R_base ho1)) (Kd.R_base ho2)) (fun _ h_ => h_.1))
      have n6_ := Aside0.mk (Kd.R_mono (Kd.R_told (Kd.R_told (Kd.R_told (Kd.R_old (Kd.R_p HO_311003) hb) (Kd.R_base ho0)) (Kd.R_base ho1)) (Kd.R_base ho2)) (fun _ h_ => h_.1))
      have n7_ := Aside0.mk (Kd.R_mono (Kd.R_told (Kd.R_told (Kd.R_told (Kd.R_old (Kd.R_p HO_311004) hb) (Kd.R_base ho0)) (Kd.R_base ho1)) (Kd.R_base ho2)) (fun _ h_ => h_.1))
      have n8_ := Aside0.mk (Kd.R_mono (Kd.R_told (Kd.R_told (Kd.R_told (Kd.R_old (Kd.R_p HO_311005) hb) (Kd.R_base ho0)) (Kd.R_base ho1)) (Kd.R_base ho2)) (fun _ h_ => h_.1))
      have n9_ := Aside0.mk (Kd.R_lower (Kd.R_new' (Kd.R_new' (Kd.R_new' (Kd.R_new' (Kd.R_new' (Kd.R_new' (Kd.R_new' (Kd.R_new' (Kd.R_new' ho0 (Kd.R_lt (Kd.R_p HO_284003))) (Kd.R_lt (Kd.R_p HO_284004))) (Kd.R_lt (Kd.R_p HO_284005))) (Kd.R_lt (Kd.R_p HO_297003))) (Kd.R_lt (Kd.R_p HO_297004))) (Kd.R_lt (Kd.R_p HO_297005))) (Kd.R_lt (Kd.R_p HO_311003))) (Kd.R_lt (Kd.R_p HO_311004))) (Kd.R_lt (Kd.R_p HO_311005))) (below_size (hb_ HB)))
      have n10_ := Aside0.mk (Kd.R_lower (Kd.R_new' (Kd.R_new' (Kd.R_new' (Kd.R_new' (Kd.R_new' (Kd.R_new' (Kd.R_new' (Kd.R_new' (Kd.R_new' ho1 (Kd.R_lt (Kd.R_p HO_284003))) (Kd.R_lt (Kd.R_p HO_284004))) (Kd.R_lt (Kd.R_p HO_284005))) (Kd.R_lt (Kd.R_p HO_297003))) (Kd.R_lt (Kd.R_p HO_297004))) (Kd.R_lt (Kd.R_p HO_297005))) (Kd.R_lt (Kd.R_p HO_311003))) (Kd.R_lt (Kd.R_p HO_311004))) (Kd.R_lt (Kd.R_p HO_311005))) (below_size (hb_ HB)))
      have n11_ := Aside0.mk (Kd.R_lower (Kd.R_new' (Kd.R_new' (Kd.R_new' (Kd.R_new' (Kd.R_new' (Kd.R_new' (Kd.R_new' (Kd.R_new' (Kd.R_new' ho2 (Kd.R_lt (Kd.R_p HO_284003))) (Kd.R_lt (Kd.R_p HO_284004))) (Kd.R_lt (Kd.R_p HO_284005))) (Kd.R_lt (Kd.R_p HO_297003))) (Kd.R_lt (Kd.R_p HO_297004))) (Kd.R_lt (Kd.R_p HO_297005))) (Kd.R_lt (Kd.R_p HO_311003))) (Kd.R_lt (Kd.R_p HO_311004))) (Kd.R_lt (Kd.R_p HO_311005))) (below_size (hb_ HB)))
      have n12_ := Aside0.mk (blk_below (kp_ BK256) hb)
      have n13_ := Aside0.mk (blk_below (kp_ BK296) hb)
      have n14_ := Aside0.mk (below_step (hb_ HB) hb)
      clear HO_284003
      clear HO_284004
      clear HO_284005
      clear HO_297003
      clear HO_297004
      clear HO_297005
      clear HO_311003
      clear HO_311004
      clear HO_311005
      clear BK256
      clear BK296
      clear HB
      have HO_284003 := n0_
      have HO_284004 := n1_
      have HO_284005 := n2_
      have HO_297003 := n3_
      have HO_297004 := n4_
      have HO_297005 := n5_
      have HO_311003 := n6_
      have HO_311004 := n7_
      have HO_311005 := n8_
      have HO317 := n9_
      have HO320 := n10_
      have HO323 := n11_
      have BK256 := n12_
      have BK296 := n13_
      have HB := n14_
      clear n0_ n1_ n2_ n3_ n4_ n5_ n6_ n7_ n8_ n9_ n10_ n11_ n12_ n13_ n14_
      (try clear hb)
      (try clear hb2)
      (try clear hk)
      (try clear hi)
      (try clear ho0)
      (try clear ho1)
      (try clear ho2)
      obtain ⟨Ao169, co169, eo169⟩ := Kd.R_slice HO317.out
      (first | subst eo169 | (injection eo169 with f1_ f2_ f3_; have f4_ := f1_.symm; have f5_ := f3_.symm; clear f1_ f2_ f3_; subst f4_; subst f5_))
      obtain ⟨Ao170, co170, eo170⟩ := Kd.R_slice HO320.out
      (first | subst eo170 | (injection eo170 with f1_ f2_ f3_; have f4_ := f1_.symm; have f5_ := f3_.symm; clear f1_ f2_ f3_; subst f4_; subst f5_))
      obtain ⟨Ao171, co171, eo171⟩ := Kd.R_slice HO323.out
      (first | subst eo171 | (injection eo171 with f1_ f2_ f3_; have f4_ := f1_.symm; have f5_ := f3_.symm; clear f1_ f2_ f3_; subst f4_; subst f5_))
      refine hK.out _ _ ⟨(blk_cell BK296.out 0).trans rfl, (blk_cell BK296.out 1).trans rfl, (blk_cell BK296.out 2).trans rfl, (blk_cell BK296.out 3).trans rfl, (blk_cell BK296.out 4).trans rfl, (blk_cell BK296.out 5).trans rfl, (blk_cell BK256.out 0).trans rfl, (blk_cell BK256.out 1).trans rfl, (blk_cell BK256.out 2).trans rfl, (blk_cell BK256.out 3).trans rfl, (blk_cell BK256.out 4).trans rfl, (blk_cell BK256.out 5).trans rfl⟩ (fun hHeld => ?_)
      clear hK K
      refine norm_ (a' := ?_) ?_ ?_
      rotate_left
      ·show Act.put _ (some 59) _ = _
       simp only [Act.put, List.setIfInBounds_toArray, List.set_cons_zero, List.set_cons_succ, i64_w, i32_w]
       rfl
      refine one_ (i := 3) (N := some 60) #[true, true, true, true, false] rfl rfl (by kernel_rfl) (by decide) (fun K hK => ?_)
      refine goes_ Try.func11 (by kernel_rfl) rfl #[.agg #[.int .i64 t284, .int .i64 t285, .int .i64 t286, .slice Ao37 t287.length co37, .slice Ao38 t290.length co38, .slice Ao39 t293.length co39], .agg #[.int .i64 t312, .int .i64 t313, .int .i64 t314, .slice Ao169 t315.length co169, .slice Ao170 t318.length co170, .slice Ao171 t321.length co171]] (by rfl) rfl rfl (by (try simp only [List.map_toArray, List.map_cons, List.map_nil]); first | done | rfl | (simp only [List.length_drop, List.length_take]; rfl)) ?_
      with_reducible refine (laws_eqModel.calls kj14 t284 t285 t286 _ _ t287 _ _ t290 _ _ t293 t312 t313 t314 _ _ t315 _ _ t318 _ _ t321 false _ ?side1 ?side2 ?side3 ?side4 ?side5 ?side6 ?side7 ?side8 ?side9 ?side10 ?side11 ?side12 A69.out).mono ?_
      (case side1 => exact Kd.C_o HO_297003)
      (case side2 => exact (Kd.R_reads' HO_297003.out).2.1)
      (case side3 => exact Kd.C_o HO_297004)
      (case side4 => exact (Kd.R_reads' HO_297004.out).2.1)
      (case side5 => exact Kd.C_o HO_297005)
      (case side6 => exact (Kd.R_reads' HO_297005.out).2.1)
      (case side7 => exact Kd.C_o HO317)
      (case side8 => exact (Kd.R_reads' HO317.out).2.1)
      (case side9 => exact Kd.C_o HO320)
      (case side10 => exact (Kd.R_reads' HO320.out).2.1)
      (case side11 => exact Kd.C_o HO323)
      (case side12 => exact (Kd.R_reads' HO323.out).2.1)
      rintro e w172 ⟨rfl, hb⟩
      refine ⟨_, rfl, ?_⟩
      have n0_ := Aside0.mk (Kd.R_below (Kd.R_p HO_284003) hb)
      have n1_ := Aside0.mk (Kd.R_below (Kd.R_p HO_284004) hb)
      have n2_ := Aside0.mk (Kd.R_below (Kd.R_p HO_284005) hb)
      have n3_ := Aside0.mk (Kd.R_below (Kd.R_p HO_297003) hb)
      have n4_ := Aside0.mk (Kd.R_below (Kd.R_p HO_297004) hb)
      have n5_ := Aside0.mk (Kd.R_below (Kd.R_p HO_297005) hb)
      have n6_ := Aside0.mk (Kd.R_below (Kd.R_p HO_311003) hb)
      have n7_ := Aside0.mk (Kd.R_below (Kd.R_p HO_311004) hb)
      have n8_ := Aside0.mk (Kd.R_below (Kd.R_p HO_311005) hb)
      have n9_ := Aside0.mk (Kd.R_below (Kd.R_p HO317) hb)
      have n10_ := Aside0.mk (Kd.R_below (Kd.R_p HO320) hb)
      have n11_ := Aside0.mk (Kd.R_below (Kd.R_p HO323) hb)
      have n12_ := Aside0.mk (blk_below (kp_ BK256) hb)
      have n13_ := Aside0.mk (blk_below (kp_ BK296) hb)
      have n14_ := Aside0.mk (below_step (hb_ HB) hb)
      clear HO_284003
      clear HO_284004
      clear HO_284005
      clear HO_297003
      clear HO_297004
      clear HO_297005
      clear HO_311003
      clear HO_311004
      clear HO_311005
      clear HO317
      clear HO320
      clear HO323
      clear BK256
      clear BK296
      clear HB
      have HO_284003 := n0_
      have HO_284004 := n1_
      have HO_284005 := n2_
      have HO_297003 := n3_
      have HO_297004 := n4_
      have HO_297005 := n5_
      have HO_311003 := n6_
      have HO_311004 := n7_
      have HO_311005 := n8_
      have HO317 := n9_
      have HO320 := n10_
      have HO323 := n11_
      have BK256 := n12_
      have BK296 := n13_
      have HB := n14_
      clear n0_ n1_ n2_ n3_ n4_ n5_ n6_ n7_ n8_ n9_ n10_ n11_ n12_ n13_ n14_
      (try clear hb)
      (try clear hb2)
      (try clear hk)
      (try clear hi)
      refine hK.out _ _ ⟨(blk_cell BK296.out 0).trans rfl, (blk_cell BK296.out 1).trans rfl, (blk_cell BK296.out 2).trans rfl, (blk_cell BK296.out 3).trans rfl, (blk_cell BK296.out 4).trans rfl, (blk_cell BK296.out 5).trans rfl, (blk_cell BK256.out 0).trans rfl, (blk_cell BK256.out 1).trans rfl, (blk_cell BK256.out 2).trans rfl, (blk_cell BK256.out 3).trans rfl, (blk_cell BK256.out 4).trans rfl, (blk_cell BK256.out 5).trans rfl⟩ (fun hHeld => ?_)
      clear hK K
      refine norm_ (a' := ?_) ?_ ?_
      rotate_left
      ·show Act.put _ (some 60) _ = _
       simp only [Act.put, List.setIfInBounds_toArray, List.set_cons_zero, List.set_cons_succ, i64_w, i32_w]
       rfl
      refine pure_ (i := 4) (N := some 61) (v := ?_) (a' := ?_) #[true, true, true, true, true] rfl rfl (by kernel_rfl) (fun _ _ _ h => h) (Or.inl ⟨by rfl, ?_⟩) ?_ ?_
      rotate_left
      ·intro w'
       go_simp
       with_reducible rfl
      rotate_left
      ·simp only [Act.put, List.setIfInBounds_toArray, List.set_cons_zero, List.set_cons_succ, i64_w, i32_w]
       rfl
      refine done_ (by kernel_rfl) ?_
      try go_wp2
      go_ret
      exact ⟨by first | rfl | (simp [errW_none, errW_some] <;> rfl) | (simp [*, errW_none, errW_some] <;> rfl), hb_ HB⟩

end Go.Proofs.Ytdfjlelbkkaloaa.PFnExactSetBlock
