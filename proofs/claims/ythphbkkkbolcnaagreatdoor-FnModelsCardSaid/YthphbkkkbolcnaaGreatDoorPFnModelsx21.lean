-- Laid for this claim by wip/tools/print2.sh, a changed copy of the kit's print (wip/tools/patch_print.py): not by print.sh. Changed by wip/fix/laid.py.
import Derived.Test.YthphbkkkbolcnaaGreatDoorPFnModelsx7
import Derived.Test.YthphbkkkbolcnaaGreatDoorPFnModelsx11
import Derived.Test.YthphbkkkbolcnaaGreatDoorPFnModelsx14
import Derived.Test.YthphbkkkbolcnaaGreatDoorPFnModelsx15
import Derived.Test.YthphbkkkbolcnaaGreatDoorPFnModelsx18
import Derived.Test.YthphbkkkbolcnaaGreatDoorPFnModelsx20
import Derived.Test.YthphbkkkbolcnaaGreatDoorVFnModels
namespace Go.Proofs.YthphbkkkbolcnaaGreatDoor.PFnModels
open Go.RowKit Go.Proofs.YthphbkkkbolcnaaGreatDoorW.PrintWords Go.Proofs.YthphbkkkbolcnaaGreatDoorW.PrintLast Go.Proofs.YthphbkkkbolcnaaGreatDoorW.PrintMore
set_option linter.unusedVariables false
set_option linter.unusedSimpArgs false

/-! ### laws_FnModels: function 3 -/
mutual
def laws_FnModels.j0 : Nat → List Int → ByteArray → Bool → Bool → Int → Int → Int → List Int → List Int → List Int → Option (Bool)
 | 0, _, _, _, _, _, _, _, _, _, _ => none
 | k + 1, x1, x6, x7, x74, x779000, x779001, x779002, x779003, x779004, x779005 => if x74 = true then (some false) else (if x7 = true then ((impl_ParseModel.f k x6).bind fun bt784 => ((impl_LevelSums.f k x779000 x779001 x779002 x779003 x779004 x779005).bind fun bt798 => ((spec_LevelSums.f k x779000 x779001 x779002 x779003 x779004 x779005).bind fun bt802 => ((impl_RockTonnes.f k x779000 x779001 x779002 x779003 x779004 x779005).bind fun bt806 => ((spec_RockTonnes.f k x779000 x779001 x779002 x779003 x779004 x779005).bind fun bt810 => (if bt784.2.2.2.2.2.2 = true then ((laws_pSameModel.f k bt784.1 bt784.2.1 bt784.2.2.1 bt784.2.2.2.1 bt784.2.2.2.2.1 bt784.2.2.2.2.2.1 x779000 x779001 x779002 x779003 x779004 x779005).bind fun t814 => (if t814 = true then (if bt798.2 = true then ((laws_sameLists.f k bt798.1 bt802.1).bind fun t815 => (if t815 = true then (if bt806.2 = true then ((laws_sameInts.f k bt806.1 bt810.1).bind fun t816 => (laws_FnModels.j1 k x1 bt802.1 bt810.1 (!t816) x779000 x779001 x779002 x779003 x779004 x779005)) else (laws_FnModels.j1 k x1 bt802.1 bt810.1 true x779000 x779001 x779002 x779003 x779004 x779005)) else (laws_FnModels.j1 k x1 bt802.1 bt810.1 true x779000 x779001 x779002 x779003 x779004 x779005))) else (laws_FnModels.j1 k x1 bt802.1 bt810.1 true x779000 x779001 x779002 x779003 x779004 x779005)) else (laws_FnModels.j1 k x1 bt802.1 bt810.1 true x779000 x779001 x779002 x779003 x779004 x779005))) else (laws_FnModels.j1 k x1 bt802.1 bt810.1 true x779000 x779001 x779002 x779003 x779004 x779005))))))) else (laws_FnModels.j4 k x1))
def laws_FnModels.j4 : Nat → List Int → Option (Bool)
 | 0, _ => none
 | k + 1, x1 => (spec_DrawEmptyBlocks.f k x1).bind fun bt829 => ((impl_EmptyBlocks.f k bt829.1 bt829.2.1 bt829.2.2.1 bt829.2.2.2.1 bt829.2.2.2.2.1 bt829.2.2.2.2.2.1 bt829.2.2.2.2.2.2).bind fun bt845 => ((spec_EmptyBlocks.f k bt829.1 bt829.2.1 bt829.2.2.1 bt829.2.2.2.1 bt829.2.2.2.2.1 bt829.2.2.2.2.2.1 bt829.2.2.2.2.2.2).bind fun bt859 => ((impl_SumsOf.f k bt829.1 bt829.2.1 bt829.2.2.1 bt829.2.2.2.1 bt829.2.2.2.2.1 bt829.2.2.2.2.2.1 bt829.2.2.2.2.2.2).bind fun bt873 => ((spec_SumsOf.f k bt829.1 bt829.2.1 bt829.2.2.1 bt829.2.2.2.1 bt829.2.2.2.2.1 bt829.2.2.2.2.2.1 bt829.2.2.2.2.2.2).bind fun bt876 => (if (bt845.2.2.2.2.2.2 != bt859.2.2.2.2.2.2) = true then (laws_FnModels.j5 k x1 bt845.2.2.2.2.2.2 bt876.1 true bt829.1 bt829.2.1 bt829.2.2.1 bt829.2.2.2.1 bt829.2.2.2.2.1 bt829.2.2.2.2.2.1 bt859.1 bt859.2.1 bt859.2.2.1 bt859.2.2.2.1 bt859.2.2.2.2.1 bt859.2.2.2.2.2.1) else ((laws_pSameModel.f k bt845.1 bt845.2.1 bt845.2.2.1 bt845.2.2.2.1 bt845.2.2.2.2.1 bt845.2.2.2.2.2.1 bt859.1 bt859.2.1 bt859.2.2.1 bt859.2.2.2.1 bt859.2.2.2.2.1 bt859.2.2.2.2.2.1).bind fun t879 => (if t879 = true then (if (bt873.2.2 != bt876.2.2) = true then (laws_FnModels.j5 k x1 bt845.2.2.2.2.2.2 bt876.1 true bt829.1 bt829.2.1 bt829.2.2.1 bt829.2.2.2.1 bt829.2.2.2.2.1 bt829.2.2.2.2.2.1 bt859.1 bt859.2.1 bt859.2.2.1 bt859.2.2.2.1 bt859.2.2.2.2.1 bt859.2.2.2.2.2.1) else (if bt873.1 = bt876.1 then (if bt873.2.1 = bt876.2.1 then (laws_FnModels.j5 k x1 bt845.2.2.2.2.2.2 bt876.1 (bt845.2.2.2.2.2.2 != bt873.2.2) bt829.1 bt829.2.1 bt829.2.2.1 bt829.2.2.2.1 bt829.2.2.2.2.1 bt829.2.2.2.2.2.1 bt859.1 bt859.2.1 bt859.2.2.1 bt859.2.2.2.1 bt859.2.2.2.2.1 bt859.2.2.2.2.2.1) else (laws_FnModels.j5 k x1 bt845.2.2.2.2.2.2 bt876.1 true bt829.1 bt829.2.1 bt829.2.2.1 bt829.2.2.2.1 bt829.2.2.2.2.1 bt829.2.2.2.2.2.1 bt859.1 bt859.2.1 bt859.2.2.1 bt859.2.2.2.1 bt859.2.2.2.2.1 bt859.2.2.2.2.2.1)) else (laws_FnModels.j5 k x1 bt845.2.2.2.2.2.2 bt876.1 true bt829.1 bt829.2.1 bt829.2.2.1 bt829.2.2.2.1 bt829.2.2.2.2.1 bt829.2.2.2.2.2.1 bt859.1 bt859.2.1 bt859.2.2.1 bt859.2.2.2.1 bt859.2.2.2.2.1 bt859.2.2.2.2.2.1))) else (laws_FnModels.j5 k x1 bt845.2.2.2.2.2.2 bt876.1 true bt829.1 bt829.2.1 bt829.2.2.1 bt829.2.2.2.1 bt829.2.2.2.2.1 bt829.2.2.2.2.2.1 bt859.1 bt859.2.1 bt859.2.2.1 bt859.2.2.2.1 bt859.2.2.2.2.1 bt859.2.2.2.2.2.1))))))))
def laws_FnModels.j5 : Nat → List Int → Bool → Int → Bool → Int → Int → Int → List Int → List Int → List Int → Int → Int → Int → List Int → List Int → List Int → Option (Bool)
 | 0, _, _, _, _, _, _, _, _, _, _, _, _, _, _, _, _ => none
 | k + 1, x1, x32, x38, x253, x845000, x845001, x845002, x845003, x845004, x845005, x873000, x873001, x873002, x873003, x873004, x873005 => if x253 = true then (some false) else (if x32 = true then ((laws_pSum.f k x873003).bind fun t880 => ((laws_pSum.f k x845003).bind fun t881 => (laws_FnModels.j6 k x1 ((wrap64 (t880 + x38)) != t881)))) else (laws_FnModels.j6 k x1 false))
def laws_FnModels.j6 : Nat → List Int → Bool → Option (Bool)
 | 0, _, _ => none
 | k + 1, x1, x265 => if x265 = true then (some false) else ((spec_DrawParseModel.f k x1).bind fun t882 => ((impl_ParseModel.f k t882).bind fun bt883 => ((spec_ParseModel.f k t882).bind fun bt897 => (if (bt883.2.2.2.2.2.2 == bt897.2.2.2.2.2.2) = true then ((laws_pSameModel.f k bt883.1 bt883.2.1 bt883.2.2.1 bt883.2.2.2.1 bt883.2.2.2.2.1 bt883.2.2.2.2.2.1 bt897.1 bt897.2.1 bt897.2.2.1 bt897.2.2.2.1 bt897.2.2.2.2.1 bt897.2.2.2.2.2.1).bind fun t911 => (some t911)) else (some false)))))
def laws_FnModels.j1 : Nat → List Int → List (List Int) → List Int → Bool → Int → Int → Int → List Int → List Int → List Int → Option (Bool)
 | 0, _, _, _, _, _, _, _, _, _, _ => none
 | k + 1, x1, x14, x18, x128, x779000, x779001, x779002, x779003, x779004, x779005 => if x128 = true then (some false) else (laws_FnModels.l0 k x1 x18 0 x14 (x14.length : Int) 0 x779000 x779001 x779002 x779003 x779004 x779005)
def laws_FnModels.l0 : Nat → List Int → List Int → Int → List (List Int) → Int → Int → Int → Int → Int → List Int → List Int → List Int → Option (Bool)
 | 0, _, _, _, _, _, _, _, _, _, _, _, _ => none
 | k + 1, x1, x18, x20, x129, x130, x131, x779000, x779001, x779002, x779003, x779004, x779005 => if x131 < x130 then (if 0 ≤ x131 then (if x131 < (x129.length : Int) then (if 0 < ((rd_L6 x129 x131).length : Int) then (laws_FnModels.l0 k x1 x18 (wrap64 (x20 + (rd (rd_L6 x129 x131) 0))) x129 x130 (wrap64 (x131 + 1)) x779000 x779001 x779002 x779003 x779004 x779005) else (none)) else (none)) else (none)) else ((laws_pSum.f k x779003).bind fun t819 => (if x20 = t819 then ((laws_pSum.f k x18).bind fun t820 => (laws_FnModels.j3 k x1 (t820 != x20) x779000 x779001 x779002 x779003 x779004 x779005)) else (laws_FnModels.j3 k x1 true x779000 x779001 x779002 x779003 x779004 x779005)))
def laws_FnModels.j3 : Nat → List Int → Bool → Int → Int → Int → List Int → List Int → List Int → Option (Bool)
 | 0, _, _, _, _, _, _, _, _ => none
 | k + 1, x1, x151, x779000, x779001, x779002, x779003, x779004, x779005 => if x151 = true then (some false) else ((impl_RichestBlock.f k x779000 x779001 x779002 x779003 x779004 x779005).bind fun bt821 => ((spec_RichestBlock.f k x779000 x779001 x779002 x779003 x779004 x779005).bind fun bt823 => ((impl_MetalOf.f k x779000 x779001 x779002 x779003 x779004 x779005 bt823.1).bind fun bt825 => (if bt821.2 = true then (if bt821.1 = bt823.1 then (if bt825.2 = true then (if 0 ≤ bt823.1 then (if bt823.1 < (x779003.length : Int) then (if bt823.1 < (x779004.length : Int) then (if bt825.1 = (wrap64 ((rd x779003 bt823.1) * (rd x779004 bt823.1))) then (laws_FnModels.j4 k x1) else (some false)) else (none)) else (none)) else (none)) else (some false)) else (some false)) else (some false)))))
end
def laws_FnModels.f (k : Nat) (l0 : List Int) (l1 : List Int) : Option (Bool) := (laws_big.f l0 l1).bind fun t765 => (if t765 = true then (some true) else ((spec_DrawModelText.f k l0).bind fun bt766 => ((impl_ModelText.f k bt766.1 bt766.2.1 bt766.2.2.1 bt766.2.2.2.1 bt766.2.2.2.2.1 bt766.2.2.2.2.2).bind fun bt779 => ((spec_ModelText.f k bt766.1 bt766.2.1 bt766.2.2.1 bt766.2.2.2.1 bt766.2.2.2.2.1 bt766.2.2.2.2.2).bind fun bt781 => (if (bt779.2 != bt781.2) = true then (laws_FnModels.j0 k l1 bt779.1 bt779.2 true bt766.1 bt766.2.1 bt766.2.2.1 bt766.2.2.2.1 bt766.2.2.2.2.1 bt766.2.2.2.2.2) else (if bt779.1.toList = bt781.1.toList then ((impl_IsModel.f k bt766.1 bt766.2.1 bt766.2.2.1 bt766.2.2.2.1 bt766.2.2.2.2.1 bt766.2.2.2.2.2).bind fun t783 => (laws_FnModels.j0 k l1 bt779.1 bt779.2 (t783 != bt779.2) bt766.1 bt766.2.1 bt766.2.2.1 bt766.2.2.2.1 bt766.2.2.2.2.1 bt766.2.2.2.2.2)) else (laws_FnModels.j0 k l1 bt779.1 bt779.2 true bt766.1 bt766.2.1 bt766.2.2.1 bt766.2.2.2.1 bt766.2.2.2.2.1 bt766.2.2.2.2.2)))))))
set_option maxHeartbeats 60000000 in
set_option maxRecDepth 100000 in
theorem laws_FnModels.calls (k : Nat) (A0 : Option Addr) (c0 : Nat) (l0 : List Int) (A1 : Option Addr) (c1 : Nat) (l1 : List Int) (r : Bool) (w : World) (hr0 : Kd.C (Kd.int .u8) w A0 l0.length l0) (hc0 : l0.length ≤ c0) (hr1 : Kd.C (Kd.int .u8) w A1 l1.length l1) (hc1 : l1.length ≤ c1) (h : laws_FnModels.f k l0 l1 = some r) (hL : LaidW w) :
  Calls Tryz.prog 3 #[.slice A0 l0.length c0, .slice A1 l1.length c1] w fun e w' => e = .returned (.bool r) ∧ Below w.heap.size w w' := by
 have HLw := am_ hL
 clear hL
 have hu28 := Tryz.underlying28
 have HR0 := am_ hr0
 have HC0 := am_ hc0
 clear hr0 hc0
 have HR1 := am_ hr1
 have HC1 := am_ hc1
 clear hr1 hc1
 have HB := am_ (Below.refl w.heap.size w)
 have H := h
 unfold laws_FnModels.f at H
 clear h
 revert H; refine bn_ ?_; rintro t765 A3 H; try dsimp only at H
 by_cases c4 : t765 = true
 ·subst c4
  rw [if_pos rfl] at H
  obtain rfl := Option.some.inj H
  go_enter Tryz.func3, Tryz.ntmps3
  go_wp2_with (first | (go_at_call 4; (with_reducible refine (laws_big.calls _ _ l0 _ _ l1 true _ ?side1 ?_ ?side3 ?_ A3.out).mono ?_); (case side1 => repeat (first | exact HR0.out | (with_reducible refine Kd.C_alloc ?_ _) | (with_reducible refine Kd.C_drewN ?_ _) | (with_reducible refine Kd.C_drew ?_))); exact HC0.out; (case side3 => repeat (first | exact HR1.out | (with_reducible refine Kd.C_alloc ?_ _) | (with_reducible refine Kd.C_drewN ?_ _) | (with_reducible refine Kd.C_drew ?_))); exact HC1.out; rintro e w' ⟨rfl, ⟨nd, rfl⟩⟩; (try first | exact ⟨rfl, _, World.drewN_drewN _ _ _⟩ | exact ⟨rfl, _, Eq.trans (World.drewN_drewN _ _ _) (congrArg (World.drewN _) (Nat.add_assoc _ _ _))⟩)))
  repeat (go_quiet (first | (go_at_call 4; (with_reducible refine (laws_big.calls _ _ l0 _ _ l1 true _ ?side1 ?_ ?side3 ?_ A3.out).mono ?_); (case side1 => repeat (first | exact HR0.out | (with_reducible refine Kd.C_alloc ?_ _) | (with_reducible refine Kd.C_drewN ?_ _) | (with_reducible refine Kd.C_drew ?_))); exact HC0.out; (case side3 => repeat (first | exact HR1.out | (with_reducible refine Kd.C_alloc ?_ _) | (with_reducible refine Kd.C_drewN ?_ _) | (with_reducible refine Kd.C_drew ?_))); exact HC1.out; rintro e w' ⟨rfl, ⟨nd, rfl⟩⟩; (try first | exact ⟨rfl, _, World.drewN_drewN _ _ _⟩ | exact ⟨rfl, _, Eq.trans (World.drewN_drewN _ _ _) (congrArg (World.drewN _) (Nat.add_assoc _ _ _))⟩))); try go_wp2_with (first | (go_at_call 4; (with_reducible refine (laws_big.calls _ _ l0 _ _ l1 true _ ?side1 ?_ ?side3 ?_ A3.out).mono ?_); (case side1 => repeat (first | exact HR0.out | (with_reducible refine Kd.C_alloc ?_ _) | (with_reducible refine Kd.C_drewN ?_ _) | (with_reducible refine Kd.C_drew ?_))); exact HC0.out; (case side3 => repeat (first | exact HR1.out | (with_reducible refine Kd.C_alloc ?_ _) | (with_reducible refine Kd.C_drewN ?_ _) | (with_reducible refine Kd.C_drew ?_))); exact HC1.out; rintro e w' ⟨rfl, ⟨nd, rfl⟩⟩; (try first | exact ⟨rfl, _, World.drewN_drewN _ _ _⟩ | exact ⟨rfl, _, Eq.trans (World.drewN_drewN _ _ _) (congrArg (World.drewN _) (Nat.add_assoc _ _ _))⟩))))
  go_ret
  exact ad_ (hb_ HB)
 replace c4 := Bool.eq_false_iff.mpr c4
 subst c4
 rw [if_neg (show ¬ (false = true) by decide)] at H
 revert H; refine bn_ ?_; rintro ⟨t766, t767, t768, t769, t772, t775⟩ A5 H; try dsimp only at H
 revert H; refine bn_ ?_; rintro ⟨t779, t780⟩ A6 H; try dsimp only at H
 revert H; refine bn_ ?_; rintro ⟨t781, t782⟩ A7 H; try dsimp only at H
 have HC8 := am_ H
 clear H
 go_enter Tryz.func3, Tryz.ntmps3
 go_upto_region 6 with (first | (go_at_call 4; (with_reducible refine (laws_big.calls _ _ l0 _ _ l1 false _ ?side1 ?_ ?side3 ?_ A3.out).mono ?_); (case side1 => repeat (first | exact HR0.out | (with_reducible refine Kd.C_alloc ?_ _) | (with_reducible refine Kd.C_drewN ?_ _) | (with_reducible refine Kd.C_drew ?_))); exact HC0.out; (case side3 => repeat (first | exact HR1.out | (with_reducible refine Kd.C_alloc ?_ _) | (with_reducible refine Kd.C_drewN ?_ _) | (with_reducible refine Kd.C_drew ?_))); exact HC1.out; rintro e w' ⟨rfl, ⟨nd, rfl⟩⟩; (try first | exact ⟨rfl, _, World.drewN_drewN _ _ _⟩ | exact ⟨rfl, _, Eq.trans (World.drewN_drewN _ _ _) (congrArg (World.drewN _) (Nat.add_assoc _ _ _))⟩)) | (go_at_call 5; (with_reducible refine (spec_DrawModelText.calls k _ _ l0 t766 t767 t768 t769 t772 t775 _ ?side1 ?_ A5.out).mono ?_); (case side1 => repeat (first | exact HR0.out | (with_reducible refine Kd.C_alloc ?_ _) | (with_reducible refine Kd.C_drewN ?_ _) | (with_reducible refine Kd.C_drew ?_))); exact HC0.out; rintro e w9 ⟨v770, v773, v776, rfl, ho0, ho1, ho2, hb⟩; have HO771 := am_ (Kd.R_lower ho0 (below_size (hb_ HB))); have HO774 := am_ (Kd.R_lower ho1 (below_size (hb_ HB))); have HO777 := am_ (Kd.R_lower ho2 (below_size (hb_ HB))); replace HB := am_ (below_step (hb_ HB) hb)) | ((with_reducible refine gate_dst (N := 5) rfl ?_); refine bv_ 5 (cs := #[.int .i64 0, .int .i64 0, .int .i64 0, .slice none 0 0, .slice none 0 0, .slice none 0 0]) (t := 28) ?_; intro gb778 hg w10 hbox hb; have BK778 := am_ (hbox); have GW778 := gs_ hg HB; have GE778 := gs_ hg HB; replace HO771 := Kd.R_b HO771 hb; replace HO774 := Kd.R_b HO774 hb; replace HO777 := Kd.R_b HO777 hb; replace HB := hbs_ HB hb; clear hb hbox hg; obtain ⟨hcz11_0, hcz11_1, hcz11_2, hcz11_3, hcz11_4, hcz11_5, hfz11_0, hfz11_1, hfz11_2, hfz11_3, hfz11_4, hfz11_5⟩ := bx6 BK778; obtain ⟨Ao12, co12, eo12⟩ := Kd.R_slice HO771.out; subst eo12; obtain ⟨Ao13, co13, eo13⟩ := Kd.R_slice HO774.out; subst eo13; obtain ⟨Ao14, co14, eo14⟩ := Kd.R_slice HO777.out; subst eo14) | (go_at_call 6; (with_reducible refine (impl_ModelText.calls k t766 t767 t768 _ _ t769 _ _ t772 _ _ t775 t779 t780 _ ?_ ?_ ?_ ?_ ?_ ?_ A6.out (by exact LaidW.step HLw (hb_ HB))).mono ?_); exact (Kd.R_reads' (Kd.R_s HO771 BK778)).2.2; exact (Kd.R_reads' HO771.out).2.1; exact (Kd.R_reads' (Kd.R_s HO774 BK778)).2.2; exact (Kd.R_reads' HO774.out).2.1; exact (Kd.R_reads' (Kd.R_s HO777 BK778)).2.2; exact (Kd.R_reads' HO777.out).2.1; rintro e w15 ⟨rfl, hb⟩; replace HO771 := am_ (Kd.R_below (Kd.R_s HO771 BK778) hb); replace HO774 := am_ (Kd.R_below (Kd.R_s HO774 BK778) hb); replace HO777 := am_ (Kd.R_below (Kd.R_s HO777 BK778) hb); replace BK778 := am_ (blk_below (g := gb778) (o := .cells #[.int .i64 t766, .int .i64 t767, .int .i64 t768, .slice Ao12 t769.length co12, .slice Ao13 t772.length co13, .slice Ao14 t775.length co14] 28 (0, 0)) (kpq_ (kputs BK778 [(0, _), (1, _), (2, _), (3, _), (4, _), (5, _)])) hb); replace HB := am_ (below_step (hb_ HB) hb); obtain ⟨hcz16_0, hcz16_1, hcz16_2, hcz16_3, hcz16_4, hcz16_5, hfz16_0, hfz16_1, hfz16_2, hfz16_3, hfz16_4, hfz16_5⟩ := bx6 BK778) | (go_at_call 7; (with_reducible refine (spec_ModelText.calls k t766 t767 t768 _ _ t769 _ _ t772 _ _ t775 t781 t782 _ ?_ ?_ ?_ ?_ ?_ ?_ A7.out).mono ?_); exact Kd.C_o HO771; exact (Kd.R_reads' HO771.out).2.1; exact Kd.C_o HO774; exact (Kd.R_reads' HO774.out).2.1; exact Kd.C_o HO777; exact (Kd.R_reads' HO777.out).2.1; rintro e w17 ⟨rfl, hb⟩; replace HO771 := am_ (Kd.R_below (Kd.R_p HO771) hb); replace HO774 := am_ (Kd.R_below (Kd.R_p HO774) hb); replace HO777 := am_ (Kd.R_below (Kd.R_p HO777) hb); replace BK778 := am_ (blk_below (kp_ BK778) hb); replace HB := am_ (below_step (hb_ HB) hb)))
 repeat (go_quiet (first | (go_at_call 4; (with_reducible refine (laws_big.calls _ _ l0 _ _ l1 false _ ?side1 ?_ ?side3 ?_ A3.out).mono ?_); (case side1 => repeat (first | exact HR0.out | (with_reducible refine Kd.C_alloc ?_ _) | (with_reducible refine Kd.C_drewN ?_ _) | (with_reducible refine Kd.C_drew ?_))); exact HC0.out; (case side3 => repeat (first | exact HR1.out | (with_reducible refine Kd.C_alloc ?_ _) | (with_reducible refine Kd.C_drewN ?_ _) | (with_reducible refine Kd.C_drew ?_))); exact HC1.out; rintro e w' ⟨rfl, ⟨nd, rfl⟩⟩; (try first | exact ⟨rfl, _, World.drewN_drewN _ _ _⟩ | exact ⟨rfl, _, Eq.trans (World.drewN_drewN _ _ _) (congrArg (World.drewN _) (Nat.add_assoc _ _ _))⟩))); go_upto_region 6 with (first | (go_at_call 4; (with_reducible refine (laws_big.calls _ _ l0 _ _ l1 false _ ?side1 ?_ ?side3 ?_ A3.out).mono ?_); (case side1 => repeat (first | exact HR0.out | (with_reducible refine Kd.C_alloc ?_ _) | (with_reducible refine Kd.C_drewN ?_ _) | (with_reducible refine Kd.C_drew ?_))); exact HC0.out; (case side3 => repeat (first | exact HR1.out | (with_reducible refine Kd.C_alloc ?_ _) | (with_reducible refine Kd.C_drewN ?_ _) | (with_reducible refine Kd.C_drew ?_))); exact HC1.out; rintro e w' ⟨rfl, ⟨nd, rfl⟩⟩; (try first | exact ⟨rfl, _, World.drewN_drewN _ _ _⟩ | exact ⟨rfl, _, Eq.trans (World.drewN_drewN _ _ _) (congrArg (World.drewN _) (Nat.add_assoc _ _ _))⟩))))
 (try simp only [Act.put, List.setIfInBounds_toArray, List.set_cons_zero, List.set_cons_succ])
 refine wp_cutF [1,1,1,1,1,1,1,1,1,1,1,1,1,1,1,1,1,1,1,1,1,1,1,1,1,1,1,1,1,1,1,1,1,1,1,1,1,1,1,1,1,1,1,1,1,1] (fun us wc => ∃ v74 : Value, us[74]? = some v74 ∧ ∃ (kq : Nat) (x74_7 : Bool), v74 = .bool x74_7 ∧ Aside0 (laws_FnModels.j0 kq l1 t779 t780 x74_7 t766 t767 t768 t769 t772 t775 = some r) ∧ Aside0 (kq ≤ k) ∧ Aside0 (Kd.R (Kd.int .i64) 3 wc w.heap.size (fun k_ => some k_ ≠ ((.slice Ao13 t772.length co13) : Value).ownBlock ∧ some k_ ≠ ((.slice Ao14 t775.length co14) : Value).ownBlock) (.slice Ao12 t769.length co12) t769) ∧ Aside0 (Kd.R (Kd.int .i64) 3 wc w.heap.size (fun k_ => some k_ ≠ ((.slice Ao12 t769.length co12) : Value).ownBlock ∧ some k_ ≠ ((.slice Ao14 t775.length co14) : Value).ownBlock) (.slice Ao13 t772.length co13) t772) ∧ Aside0 (Kd.R (Kd.int .i64) 3 wc w.heap.size (fun k_ => some k_ ≠ ((.slice Ao12 t769.length co12) : Value).ownBlock ∧ some k_ ≠ ((.slice Ao13 t772.length co13) : Value).ownBlock) (.slice Ao14 t775.length co14) t775) ∧ Aside0 (wc.heap[gb778]? = some (.cells #[.int .i64 t766, .int .i64 t767, .int .i64 t768, (.slice Ao12 t769.length co12), (.slice Ao13 t772.length co13), (.slice Ao14 t775.length co14)] 28 (0, 0))) ∧ Aside0 (Below w.heap.size w wc)) ?first1 ?rest1
 case first1 =>
  intro J_ K_ hJ_ hK_
  have H := HC8.out
  clear HC8
  by_cases c18 : (t780 != t782) = true
  ·rw [if_pos c18] at H
   have c18b0 : (t780 != t782) = true := c18
   (try (have c18b1 : decide (t780 = t782) = false := by simpa using c18))
   (try (have c18b2 : (t780 == t782) = false := by simpa using c18))
   (try (have c18b3 : ¬ (t780 = t782) := by simpa using c18))
   clear c18
   (first | rw [c18b0] | (simp only [i64_w, i32_w]; rw [c18b0]) | skip)
   have H' := am_ H
   clear H
   go_wp2
   repeat (go_quiet (fail); try go_wp2)
   refine mt_ hJ_ ⟨_, rfl, ?rel1⟩
   case rel1 => exact ⟨_, (true), sr_, H', ⟨by first | omega | exact Nat.le_refl _⟩, ⟨Kd.R_p HO771⟩, ⟨Kd.R_p HO774⟩, ⟨Kd.R_p HO777⟩, ⟨kp_ BK778⟩, ⟨hb_ HB⟩⟩
  rw [if_neg c18] at H
  have c18b0 : (t780 != t782) = false := by simpa using c18
  (try (have c18b1 : decide (t780 = t782) = true := by simpa using c18))
  (try (have c18b2 : (t780 == t782) = true := by simpa using c18))
  clear c18
  (first | rw [c18b0] | (simp only [i64_w, i32_w]; rw [c18b0]) | skip)
  by_cases c19 : t779.toList = t781.toList
  ·rw [if_pos c19] at H
   have c19b0 : (t779.toList == t781.toList) = true := beq_iff_eq.mpr c19
   have c19b1 : (t779.toList != t781.toList) = false := bne_eq_false_iff_eq.mpr c19
   clear c19
   revert H; refine bn_ ?_; rintro t783 A20 H; try dsimp only at H
   have H' := am_ H
   clear H
   obtain ⟨hcz21_0, hcz21_1, hcz21_2, hcz21_3, hcz21_4, hcz21_5, hfz21_0, hfz21_1, hfz21_2, hfz21_3, hfz21_4, hfz21_5⟩ := bx6 BK778
   go_wp2_with (first | (go_at_call 8; (with_reducible refine (impl_IsModel.calls k t766 t767 t768 _ _ t769 _ _ t772 _ _ t775 t783 _ ?_ ?_ ?_ ?_ ?_ ?_ A20.out).mono ?_); exact Kd.C_o HO771; exact (Kd.R_reads' HO771.out).2.1; exact Kd.C_o HO774; exact (Kd.R_reads' HO774.out).2.1; exact Kd.C_o HO777; exact (Kd.R_reads' HO777.out).2.1; rintro e w22 ⟨rfl, hb⟩; replace HO771 := am_ (Kd.R_below (Kd.R_p HO771) hb); replace HO774 := am_ (Kd.R_below (Kd.R_p HO774) hb); replace HO777 := am_ (Kd.R_below (Kd.R_p HO777) hb); replace BK778 := am_ (blk_below (kp_ BK778) hb); replace HB := am_ (below_step (hb_ HB) hb)))
   repeat (go_quiet (first | (go_at_call 8; (with_reducible refine (impl_IsModel.calls k t766 t767 t768 _ _ t769 _ _ t772 _ _ t775 t783 _ ?_ ?_ ?_ ?_ ?_ ?_ A20.out).mono ?_); exact Kd.C_o HO771; exact (Kd.R_reads' HO771.out).2.1; exact Kd.C_o HO774; exact (Kd.R_reads' HO774.out).2.1; exact Kd.C_o HO777; exact (Kd.R_reads' HO777.out).2.1; rintro e w22 ⟨rfl, hb⟩; replace HO771 := am_ (Kd.R_below (Kd.R_p HO771) hb); replace HO774 := am_ (Kd.R_below (Kd.R_p HO774) hb); replace HO777 := am_ (Kd.R_below (Kd.R_p HO777) hb); replace BK778 := am_ (blk_below (kp_ BK778) hb); replace HB := am_ (below_step (hb_ HB) hb))); try go_wp2_with (first | (go_at_call 8; (with_reducible refine (impl_IsModel.calls k t766 t767 t768 _ _ t769 _ _ t772 _ _ t775 t783 _ ?_ ?_ ?_ ?_ ?_ ?_ A20.out).mono ?_); exact Kd.C_o HO771; exact (Kd.R_reads' HO771.out).2.1; exact Kd.C_o HO774; exact (Kd.R_reads' HO774.out).2.1; exact Kd.C_o HO777; exact (Kd.R_reads' HO777.out).2.1; rintro e w22 ⟨rfl, hb⟩; replace HO771 := am_ (Kd.R_below (Kd.R_p HO771) hb); replace HO774 := am_ (Kd.R_below (Kd.R_p HO774) hb); replace HO777 := am_ (Kd.R_below (Kd.R_p HO777) hb); replace BK778 := am_ (blk_below (kp_ BK778) hb); replace HB := am_ (below_step (hb_ HB) hb))))
   refine mt_ hJ_ ⟨_, rfl, ?rel2⟩
   case rel2 => exact ⟨_, ((t783 != t780)), sr_, H', ⟨by first | omega | exact Nat.le_refl _⟩, ⟨Kd.R_p HO771⟩, ⟨Kd.R_p HO774⟩, ⟨Kd.R_p HO777⟩, ⟨kp_ BK778⟩, ⟨hb_ HB⟩⟩
  rw [if_neg c19] at H
  have c19b0 : (t779.toList == t781.toList) = false := beq_eq_false_iff_ne.mpr c19
  have c19b1 : (t779.toList != t781.toList) = true := bne_iff_ne.mpr c19
  have H' := am_ H
  clear H
  go_wp2
  repeat (go_quiet (fail); try go_wp2)
  refine mt_ hJ_ ⟨_, rfl, ?rel3⟩
  case rel3 => exact ⟨_, (true), sr_, H', ⟨by first | omega | exact Nat.le_refl _⟩, ⟨Kd.R_p HO771⟩, ⟨Kd.R_p HO774⟩, ⟨Kd.R_p HO777⟩, ⟨kp_ BK778⟩, ⟨hb_ HB⟩⟩
 repeat intro _
 refine ⟨fun wc hcut => ?_⟩
 obtain ⟨v74, h74_, hcut⟩ := hcut; obtain rfl := Option.some.inj h74_
 clear HC8
 obtain ⟨kq, x74_7, rfl, HA, HJ7, HO_779003, HO_779004, HO_779005, BK778, HB⟩ := hcut
 cases kq with
 | zero => exact absurd HA.out (by simp [laws_FnModels.j0])
 | succ kj7 => ?_
 have H := HA.out
 clear HA
 simp only [laws_FnModels.j0] at H
 by_cases c23 : x74_7 = true
 ·subst c23
  rw [if_pos rfl] at H
  obtain rfl := Option.some.inj H
  go_wp2
  repeat (go_quiet (fail); try go_wp2)
  go_ret
  exact ad_ (hb_ HB)
 replace c23 := Bool.eq_false_iff.mpr c23
 subst c23
 rw [if_neg (show ¬ (false = true) by decide)] at H
 have HC24 := am_ H
 clear H
 go_upto_if 75 with (fail)
 repeat (go_quiet (fail); go_upto_if 75 with (fail))
 refine wp_cutF [1,1,1,1,0,1,1,1,1,1,0,0,0,0,0,0,0,0,0,0,0,1,0,0,0,0,0,0,0,1,1,1,1,1,1,1,1,1,1,1,1,1,1,1,1,1] (fun us wc => ∃ (kq : Nat), Aside0 (laws_FnModels.j4 kq l1 = some r) ∧ Aside0 (kq ≤ kj7) ∧ Aside0 (Below w.heap.size w wc)) ?first2 ?rest2
 case first2 =>
  intro J_ K_ hJ_ hK_
  have H := HC24.out
  clear HC24
  by_cases c25 : t780 = true
  case neg => replace c25 := Bool.eq_false_iff.mpr c25; subst c25; rw [if_neg (show ¬ (false = true) by decide)] at H; have H' := am_ H; clear H; go_wp2; (repeat (go_quiet (fail); try go_wp2)); refine mt_ hJ_ ?rel4; (case rel4 => exact ⟨_, H', ⟨by have := HJ7.out; first | omega | exact Nat.le_refl _⟩, ⟨hb_ HB⟩⟩)
  subst c25
  rw [if_pos rfl] at H
  revert H; refine bn_ ?_; rintro ⟨t784, t785, t786, t787, t790, t793, t796⟩ A26 H; try dsimp only at H
  revert H; refine bn_ ?_; rintro ⟨t798, t801⟩ A27 H; try dsimp only at H
  revert H; refine bn_ ?_; rintro ⟨t802, t805⟩ A28 H; try dsimp only at H
  revert H; refine bn_ ?_; rintro ⟨t806, t809⟩ A29 H; try dsimp only at H
  revert H; refine bn_ ?_; rintro ⟨t810, t813⟩ A30 H; try dsimp only at H
  have HC31 := am_ H
  clear H
  go_upto_region 14 with (first | (go_at_call 9; (with_reducible refine (impl_ParseModel.calls kj7 t779 t784 t785 t786 t787 t790 t793 t796 _ A26.out (by exact LaidW.step HLw (hb_ HB))).mono ?_); rintro e w32 ⟨v788, v791, v794, rfl, ho0, ho1, ho2, hb⟩; have n0_ := am_ (Kd.R_mono (Kd.R_told (Kd.R_told (Kd.R_told (Kd.R_old (Kd.R_p HO_779003) hb) (Kd.R_base ho0)) (Kd.R_base ho1)) (Kd.R_base ho2)) (fun _ h_ => h_.1)); have n1_ := am_ (Kd.R_mono (Kd.R_told (Kd.R_told (Kd.R_told (Kd.R_old (Kd.R_p HO_779004) hb) (Kd.R_base ho0)) (Kd.R_base ho1)) (Kd.R_base ho2)) (fun _ h_ => h_.1)); have n2_ := am_ (Kd.R_mono (Kd.R_told (Kd.R_told (Kd.R_told (Kd.R_old (Kd.R_p HO_779005) hb) (Kd.R_base ho0)) (Kd.R_base ho1)) (Kd.R_base ho2)) (fun _ h_ => h_.1)); have n3_ := am_ (Kd.R_lower (Kd.R_nw (Kd.R_nw (Kd.R_nw ho0 HO_779003) HO_779004) HO_779005) (below_size (hb_ HB))); have n4_ := am_ (Kd.R_lower (Kd.R_nw (Kd.R_nw (Kd.R_nw ho1 HO_779003) HO_779004) HO_779005) (below_size (hb_ HB))); have n5_ := am_ (Kd.R_lower (Kd.R_nw (Kd.R_nw (Kd.R_nw ho2 HO_779003) HO_779004) HO_779005) (below_size (hb_ HB))); have n6_ := am_ (blk_below (kp_ BK778) hb); have n7_ := am_ (below_step (hb_ HB) hb); clear HO_779003; clear HO_779004; clear HO_779005; clear BK778; clear HB; have HO_779003 := n0_; have HO_779004 := n1_; have HO_779005 := n2_; have HO789 := n3_; have HO792 := n4_; have HO795 := n5_; have BK778 := n6_; have HB := n7_; clear n0_ n1_ n2_ n3_ n4_ n5_ n6_ n7_) | ((with_reducible refine gate_dst (N := 10) rfl ?_); refine bv_ 10 (cs := #[.int .i64 0, .int .i64 0, .int .i64 0, .slice none 0 0, .slice none 0 0, .slice none 0 0]) (t := 28) ?_; intro gb797 hg w33 hbox hb; have BK797 := am_ (hbox); have GW797 := gs_ hg HB; have GE797 := gs_ hg HB; have NB778_797 := nl_ hg BK778; have NB797_778 := ng_ hg BK778; replace HO_779003 := Kd.R_b HO_779003 hb; replace HO_779004 := Kd.R_b HO_779004 hb; replace HO_779005 := Kd.R_b HO_779005 hb; replace HO789 := Kd.R_b HO789 hb; replace HO792 := Kd.R_b HO792 hb; replace HO795 := Kd.R_b HO795 hb; replace BK778 := kb_ BK778 hb; replace HB := hbs_ HB hb; clear hb hbox hg; have := NB797_778.out; have := NB778_797.out; obtain ⟨hcz35_0, hcz35_1, hcz35_2, hcz35_3, hcz35_4, hcz35_5, hfz35_0, hfz35_1, hfz35_2, hfz35_3, hfz35_4, hfz35_5⟩ := bx6 BK797; obtain ⟨Ao36, co36, eo36⟩ := Kd.R_slice HO789.out; subst eo36; obtain ⟨Ao37, co37, eo37⟩ := Kd.R_slice HO792.out; subst eo37; obtain ⟨Ao38, co38, eo38⟩ := Kd.R_slice HO795.out; subst eo38; obtain ⟨hcz39_0, hcz39_1, hcz39_2, hcz39_3, hcz39_4, hcz39_5, hfz39_0, hfz39_1, hfz39_2, hfz39_3, hfz39_4, hfz39_5⟩ := bx6 BK778) | (go_at_call 10; (with_reducible refine (impl_LevelSums.calls kj7 t766 t767 t768 _ _ t769 _ _ t772 _ _ t775 t798 t801 _ ?_ ?_ ?_ ?_ ?_ ?_ A27.out).mono ?_); exact (Kd.R_reads' (Kd.R_s HO_779003 BK797)).2.2; exact (Kd.R_reads' HO_779003.out).2.1; exact (Kd.R_reads' (Kd.R_s HO_779004 BK797)).2.2; exact (Kd.R_reads' HO_779004.out).2.1; exact (Kd.R_reads' (Kd.R_s HO_779005 BK797)).2.2; exact (Kd.R_reads' HO_779005.out).2.1; rintro e w40 ⟨v799, rfl, ho0, hb⟩; have n0_ := am_ (Kd.R_below (Kd.R_s HO_779003 BK797) hb); have n1_ := am_ (Kd.R_below (Kd.R_s HO_779004 BK797) hb); have n2_ := am_ (Kd.R_below (Kd.R_s HO_779005 BK797) hb); have n3_ := am_ (Kd.R_below (Kd.R_s HO789 BK797) hb); have n4_ := am_ (Kd.R_below (Kd.R_s HO792 BK797) hb); have n5_ := am_ (Kd.R_below (Kd.R_s HO795 BK797) hb); have n6_ := am_ (Kd.S_lower (Kd.S_new' (Kd.S_new' (Kd.S_new' (Kd.S_new' (Kd.S_new' (Kd.S_new' ho0 (Kd.R_lt (Kd.R_s HO_779003 BK797))) (Kd.R_lt (Kd.R_s HO_779004 BK797))) (Kd.R_lt (Kd.R_s HO_779005 BK797))) (Kd.R_lt (Kd.R_s HO789 BK797))) (Kd.R_lt (Kd.R_s HO792 BK797))) (Kd.R_lt (Kd.R_s HO795 BK797))) (below_size (hb_ HB))); have n7_ := am_ (blk_below (kf_ BK778 NB778_797) hb); have n8_ := am_ (blk_below (g := gb797) (o := .cells #[.int .i64 t784, .int .i64 t785, .int .i64 t786, .slice Ao36 t787.length co36, .slice Ao37 t790.length co37, .slice Ao38 t793.length co38] 28 (0, 0)) (kpq_ (kputs BK797 [(0, _), (1, _), (2, _), (3, _), (4, _), (5, _)])) hb); have n9_ := am_ (below_step (hb_ HB) hb); clear HO_779003; clear HO_779004; clear HO_779005; clear HO789; clear HO792; clear HO795; clear BK778; clear BK797; clear HB; have HO_779003 := n0_; have HO_779004 := n1_; have HO_779005 := n2_; have HO789 := n3_; have HO792 := n4_; have HO795 := n5_; have HO800 := n6_; have BK778 := n7_; have BK797 := n8_; have HB := n9_; clear n0_ n1_ n2_ n3_ n4_ n5_ n6_ n7_ n8_ n9_; obtain ⟨hcz41_0, hcz41_1, hcz41_2, hcz41_3, hcz41_4, hcz41_5, hfz41_0, hfz41_1, hfz41_2, hfz41_3, hfz41_4, hfz41_5⟩ := bx6 BK778) | (go_at_call 11; (with_reducible refine (spec_LevelSums.calls kj7 t766 t767 t768 _ _ t769 _ _ t772 _ _ t775 t802 t805 _ ?_ ?_ ?_ ?_ ?_ ?_ A28.out).mono ?_); exact Kd.C_o HO_779003; exact (Kd.R_reads' HO_779003.out).2.1; exact Kd.C_o HO_779004; exact (Kd.R_reads' HO_779004.out).2.1; exact Kd.C_o HO_779005; exact (Kd.R_reads' HO_779005.out).2.1; rintro e w42 ⟨v803, rfl, ho0, hb⟩; have n0_ := am_ (Kd.R_below (Kd.R_p HO_779003) hb); have n1_ := am_ (Kd.R_below (Kd.R_p HO_779004) hb); have n2_ := am_ (Kd.R_below (Kd.R_p HO_779005) hb); have n3_ := am_ (Kd.R_below (Kd.R_p HO789) hb); have n4_ := am_ (Kd.R_below (Kd.R_p HO792) hb); have n5_ := am_ (Kd.R_below (Kd.R_p HO795) hb); have n6_ := am_ (Kd.S_elder' (by (with_reducible repeat (first | apply Kd.S_alloc | apply Kd.S_drewN | apply Kd.S_drew)); exact HO800.out) (Kd.S_base ho0) hb); have n7_ := am_ (Kd.S_lower (Kd.S_new' (Kd.S_new' (Kd.S_new' (Kd.S_new' (Kd.S_new' (Kd.S_new' (Kd.S_new' ho0 (Kd.R_lt (Kd.R_p HO_779003))) (Kd.R_lt (Kd.R_p HO_779004))) (Kd.R_lt (Kd.R_p HO_779005))) (Kd.R_lt (Kd.R_p HO789))) (Kd.R_lt (Kd.R_p HO792))) (Kd.R_lt (Kd.R_p HO795))) (Kd.S_lt (by (with_reducible repeat (first | apply Kd.S_alloc | apply Kd.S_drewN | apply Kd.S_drew)); exact HO800.out))) (below_size (hb_ HB))); have n8_ := am_ (blk_below (kp_ BK778) hb); have n9_ := am_ (blk_below (kp_ BK797) hb); have n10_ := am_ (below_step (hb_ HB) hb); clear HO_779003; clear HO_779004; clear HO_779005; clear HO789; clear HO792; clear HO795; clear HO800; clear BK778; clear BK797; clear HB; have HO_779003 := n0_; have HO_779004 := n1_; have HO_779005 := n2_; have HO789 := n3_; have HO792 := n4_; have HO795 := n5_; have HO800 := n6_; have HO804 := n7_; have BK778 := n8_; have BK797 := n9_; have HB := n10_; clear n0_ n1_ n2_ n3_ n4_ n5_ n6_ n7_ n8_ n9_ n10_; obtain ⟨hcz43_0, hcz43_1, hcz43_2, hcz43_3, hcz43_4, hcz43_5, hfz43_0, hfz43_1, hfz43_2, hfz43_3, hfz43_4, hfz43_5⟩ := bx6 BK778) | (go_at_call 12; (with_reducible refine (impl_RockTonnes.calls kj7 t766 t767 t768 _ _ t769 _ _ t772 _ _ t775 t806 t809 _ ?_ ?_ ?_ ?_ ?_ ?_ A29.out).mono ?_); exact Kd.C_o HO_779003; exact (Kd.R_reads' HO_779003.out).2.1; exact Kd.C_o HO_779004; exact (Kd.R_reads' HO_779004.out).2.1; exact Kd.C_o HO_779005; exact (Kd.R_reads' HO_779005.out).2.1; rintro e w44 ⟨v807, rfl, ho0, hb⟩; have n0_ := am_ (Kd.R_elder' (Kd.R_p HO_779003) (Kd.R_base ho0) hb); have n1_ := am_ (Kd.R_elder' (Kd.R_p HO_779004) (Kd.R_base ho0) hb); have n2_ := am_ (Kd.R_elder' (Kd.R_p HO_779005) (Kd.R_base ho0) hb); have n3_ := am_ (Kd.R_elder' (Kd.R_p HO789) (Kd.R_base ho0) hb); have n4_ := am_ (Kd.R_elder' (Kd.R_p HO792) (Kd.R_base ho0) hb); have n5_ := am_ (Kd.R_elder' (Kd.R_p HO795) (Kd.R_base ho0) hb); have n6_ := am_ (Kd.S_elder' (by (with_reducible repeat (first | apply Kd.S_alloc | apply Kd.S_drewN | apply Kd.S_drew)); exact HO800.out) (Kd.R_base ho0) hb); have n7_ := am_ (Kd.S_elder' (by (with_reducible repeat (first | apply Kd.S_alloc | apply Kd.S_drewN | apply Kd.S_drew)); exact HO804.out) (Kd.R_base ho0) hb); have n8_ := am_ (Kd.R_lower (Kd.R_nw (Kd.R_nw (Kd.R_nw (Kd.R_nw (Kd.R_nw (Kd.R_nw ho0 HO_779003) HO_779004) HO_779005) HO789) HO792) HO795) (below_size (hb_ HB))); have n9_ := am_ (blk_below (kp_ BK778) hb); have n10_ := am_ (blk_below (kp_ BK797) hb); have n11_ := am_ (below_step (hb_ HB) hb); clear HO_779003; clear HO_779004; clear HO_779005; clear HO789; clear HO792; clear HO795; clear HO800; clear HO804; clear BK778; clear BK797; clear HB; have HO_779003 := n0_; have HO_779004 := n1_; have HO_779005 := n2_; have HO789 := n3_; have HO792 := n4_; have HO795 := n5_; have HO800 := n6_; have HO804 := n7_; have HO808 := n8_; have BK778 := n9_; have BK797 := n10_; have HB := n11_; clear n0_ n1_ n2_ n3_ n4_ n5_ n6_ n7_ n8_ n9_ n10_ n11_; obtain ⟨hcz45_0, hcz45_1, hcz45_2, hcz45_3, hcz45_4, hcz45_5, hfz45_0, hfz45_1, hfz45_2, hfz45_3, hfz45_4, hfz45_5⟩ := bx6 BK778) | (go_at_call 13; (with_reducible refine (spec_RockTonnes.calls kj7 t766 t767 t768 _ _ t769 _ _ t772 _ _ t775 t810 t813 _ ?_ ?_ ?_ ?_ ?_ ?_ A30.out).mono ?_); exact Kd.C_o HO_779003; exact (Kd.R_reads' HO_779003.out).2.1; exact Kd.C_o HO_779004; exact (Kd.R_reads' HO_779004.out).2.1; exact Kd.C_o HO_779005; exact (Kd.R_reads' HO_779005.out).2.1; rintro e w46 ⟨v811, rfl, ho0, hb⟩; have n0_ := am_ (Kd.R_elder' (Kd.R_p HO_779003) (Kd.R_base ho0) hb); have n1_ := am_ (Kd.R_elder' (Kd.R_p HO_779004) (Kd.R_base ho0) hb); have n2_ := am_ (Kd.R_elder' (Kd.R_p HO_779005) (Kd.R_base ho0) hb); have n3_ := am_ (Kd.R_elder' (Kd.R_p HO789) (Kd.R_base ho0) hb); have n4_ := am_ (Kd.R_elder' (Kd.R_p HO792) (Kd.R_base ho0) hb); have n5_ := am_ (Kd.R_elder' (Kd.R_p HO795) (Kd.R_base ho0) hb); have n6_ := am_ (Kd.S_elder' (by (with_reducible repeat (first | apply Kd.S_alloc | apply Kd.S_drewN | apply Kd.S_drew)); exact HO800.out) (Kd.R_base ho0) hb); have n7_ := am_ (Kd.S_elder' (by (with_reducible repeat (first | apply Kd.S_alloc | apply Kd.S_drewN | apply Kd.S_drew)); exact HO804.out) (Kd.R_base ho0) hb); have n8_ := am_ (Kd.R_elder' (Kd.R_p HO808) (Kd.R_base ho0) hb); have n9_ := am_ (Kd.R_lower (Kd.R_nw (Kd.R_nw (Kd.R_nw (Kd.R_nw (Kd.R_nw (Kd.R_nw (Kd.R_nw ho0 HO_779003) HO_779004) HO_779005) HO789) HO792) HO795) HO808) (below_size (hb_ HB))); have n10_ := am_ (blk_below (kp_ BK778) hb); have n11_ := am_ (blk_below (kp_ BK797) hb); have n12_ := am_ (below_step (hb_ HB) hb); clear HO_779003; clear HO_779004; clear HO_779005; clear HO789; clear HO792; clear HO795; clear HO800; clear HO804; clear HO808; clear BK778; clear BK797; clear HB; have HO_779003 := n0_; have HO_779004 := n1_; have HO_779005 := n2_; have HO789 := n3_; have HO792 := n4_; have HO795 := n5_; have HO800 := n6_; have HO804 := n7_; have HO808 := n8_; have HO812 := n9_; have BK778 := n10_; have BK797 := n11_; have HB := n12_; clear n0_ n1_ n2_ n3_ n4_ n5_ n6_ n7_ n8_ n9_ n10_ n11_ n12_))
  repeat (go_quiet (fail); go_upto_region 14 with (fail))
  (try simp only [Act.put, List.setIfInBounds_toArray, List.set_cons_zero, List.set_cons_succ])
  refine wp_cutF [1,1,1,1,1,1,1,1,1,1,1,1,1,1,1,1,1,1,1,1,1,1,1,1,1,1,1,1,1,1,1,1,1,1,1,1,1,1,1,1,1,1,1,1,1,1] (fun us wc => ∃ v128 : Value, us[128]? = some v128 ∧ ∃ (kq : Nat) (x128_30 : Bool), v128 = .bool x128_30 ∧ Aside0 (laws_FnModels.j1 kq l1 t802 t810 x128_30 t766 t767 t768 t769 t772 t775 = some r) ∧ Aside0 (kq ≤ kj7) ∧ Aside0 (Kd.S (Kd.slice 3 (Kd.int .i64)) 26 wc w.heap.size (fun k_ => some k_ ≠ (v811 : Value).ownBlock ∧ some k_ ≠ ((.slice Ao12 t769.length co12) : Value).ownBlock ∧ some k_ ≠ ((.slice Ao13 t772.length co13) : Value).ownBlock ∧ some k_ ≠ ((.slice Ao14 t775.length co14) : Value).ownBlock) v803 t802) ∧ Aside0 (Kd.R (Kd.int .i64) 3 wc w.heap.size (fun k_ => some k_ ≠ ((.slice Ao12 t769.length co12) : Value).ownBlock ∧ some k_ ≠ ((.slice Ao13 t772.length co13) : Value).ownBlock ∧ some k_ ≠ ((.slice Ao14 t775.length co14) : Value).ownBlock) v811 t810) ∧ Aside0 (Kd.R (Kd.int .i64) 3 wc w.heap.size (fun k_ => some k_ ≠ (v811 : Value).ownBlock ∧ some k_ ≠ ((.slice Ao13 t772.length co13) : Value).ownBlock ∧ some k_ ≠ ((.slice Ao14 t775.length co14) : Value).ownBlock) (.slice Ao12 t769.length co12) t769) ∧ Aside0 (Kd.R (Kd.int .i64) 3 wc w.heap.size (fun k_ => some k_ ≠ (v811 : Value).ownBlock ∧ some k_ ≠ ((.slice Ao12 t769.length co12) : Value).ownBlock ∧ some k_ ≠ ((.slice Ao14 t775.length co14) : Value).ownBlock) (.slice Ao13 t772.length co13) t772) ∧ Aside0 (Kd.R (Kd.int .i64) 3 wc w.heap.size (fun k_ => some k_ ≠ (v811 : Value).ownBlock ∧ some k_ ≠ ((.slice Ao12 t769.length co12) : Value).ownBlock ∧ some k_ ≠ ((.slice Ao13 t772.length co13) : Value).ownBlock) (.slice Ao14 t775.length co14) t775) ∧ Aside0 (wc.heap[gb778]? = some (.cells #[.int .i64 t766, .int .i64 t767, .int .i64 t768, (.slice Ao12 t769.length co12), (.slice Ao13 t772.length co13), (.slice Ao14 t775.length co14)] 28 (0, 0))) ∧ Aside0 (Below w.heap.size w wc)) ?first3 ?rest3
  case first3 =>
   intro J_ K_ hJ_ hK_
   have H := HC31.out
   clear HC31
   by_cases c47 : t796 = true
   ·subst c47
    rw [if_pos rfl] at H
    revert H; refine bn_ ?_; rintro t814 A48 H; try dsimp only at H
    by_cases c49 : t814 = true
    ·subst c49
     rw [if_pos rfl] at H
     by_cases c50 : t801 = true
     ·subst c50
      rw [if_pos rfl] at H
      revert H; refine bn_ ?_; rintro t815 A51 H; try dsimp only at H
      by_cases c52 : t815 = true
      ·subst c52
       rw [if_pos rfl] at H
       by_cases c53 : t809 = true
       ·subst c53
        rw [if_pos rfl] at H
        revert H; refine bn_ ?_; rintro t816 A54 H; try dsimp only at H
        have H' := am_ H
        clear H
        have := NB797_778.out
        have := NB778_797.out
        obtain ⟨hcz56_0, hcz56_1, hcz56_2, hcz56_3, hcz56_4, hcz56_5, hfz56_0, hfz56_1, hfz56_2, hfz56_3, hfz56_4, hfz56_5⟩ := bx6 BK797
        obtain ⟨hcz57_0, hcz57_1, hcz57_2, hcz57_3, hcz57_4, hcz57_5, hfz57_0, hfz57_1, hfz57_2, hfz57_3, hfz57_4, hfz57_5⟩ := bx6 BK778
        go_wp2_with (first | (go_at_call 14; (with_reducible refine (laws_pSameModel.calls kj7 t784 t785 t786 _ _ t787 _ _ t790 _ _ t793 t766 t767 t768 _ _ t769 _ _ t772 _ _ t775 true _ ?_ ?_ ?_ ?_ ?_ ?_ ?_ ?_ ?_ ?_ ?_ ?_ A48.out).mono ?_); exact Kd.C_o HO789; exact (Kd.R_reads' HO789.out).2.1; exact Kd.C_o HO792; exact (Kd.R_reads' HO792.out).2.1; exact Kd.C_o HO795; exact (Kd.R_reads' HO795.out).2.1; exact Kd.C_o HO_779003; exact (Kd.R_reads' HO_779003.out).2.1; exact Kd.C_o HO_779004; exact (Kd.R_reads' HO_779004.out).2.1; exact Kd.C_o HO_779005; exact (Kd.R_reads' HO_779005.out).2.1; rintro e w58 ⟨rfl, hb⟩; have n0_ := am_ (Kd.R_below (Kd.R_p HO_779003) hb); have n1_ := am_ (Kd.R_below (Kd.R_p HO_779004) hb); have n2_ := am_ (Kd.R_below (Kd.R_p HO_779005) hb); have n3_ := am_ (Kd.R_below (Kd.R_p HO789) hb); have n4_ := am_ (Kd.R_below (Kd.R_p HO792) hb); have n5_ := am_ (Kd.R_below (Kd.R_p HO795) hb); have n6_ := am_ (Kd.S_below (by (with_reducible repeat (first | apply Kd.S_alloc | apply Kd.S_drewN | apply Kd.S_drew)); exact HO800.out) hb); have n7_ := am_ (Kd.S_below (by (with_reducible repeat (first | apply Kd.S_alloc | apply Kd.S_drewN | apply Kd.S_drew)); exact HO804.out) hb); have n8_ := am_ (Kd.R_below (Kd.R_p HO808) hb); have n9_ := am_ (Kd.R_below (Kd.R_p HO812) hb); have n10_ := am_ (blk_below (kp_ BK778) hb); have n11_ := am_ (blk_below (kp_ BK797) hb); have n12_ := am_ (below_step (hb_ HB) hb); clear HO_779003; clear HO_779004; clear HO_779005; clear HO789; clear HO792; clear HO795; clear HO800; clear HO804; clear HO808; clear HO812; clear BK778; clear BK797; clear HB; have HO_779003 := n0_; have HO_779004 := n1_; have HO_779005 := n2_; have HO789 := n3_; have HO792 := n4_; have HO795 := n5_; have HO800 := n6_; have HO804 := n7_; have HO808 := n8_; have HO812 := n9_; have BK778 := n10_; have BK797 := n11_; have HB := n12_; clear n0_ n1_ n2_ n3_ n4_ n5_ n6_ n7_ n8_ n9_ n10_ n11_ n12_; try clear BK797; try clear GW797; try clear GE797; try clear NB797_778; try clear NB778_797; try clear HO789; try clear HO792; try clear HO795; obtain ⟨Ao59, co59, eo59⟩ := Kd.S_slice HO800.out; subst eo59; obtain ⟨Ao60, co60, eo60⟩ := Kd.S_slice HO804.out; subst eo60) | (go_at_call 15; (with_reducible refine (laws_sameLists.calls kj7 _ _ t798 _ _ t802 true _ ?side1 ?_ ?side3 ?_ A51.out).mono ?_); (case side1 => repeat (first | exact (Kd.S_reads' HO800.out).2.2 | (with_reducible refine Kd.C_alloc ?_ _) | (with_reducible refine Kd.C_drewN ?_ _) | (with_reducible refine Kd.C_drew ?_))); exact (Kd.S_reads' HO800.out).2.1; (case side3 => repeat (first | exact (Kd.S_reads' HO804.out).2.2 | (with_reducible refine Kd.C_alloc ?_ _) | (with_reducible refine Kd.C_drewN ?_ _) | (with_reducible refine Kd.C_drew ?_))); exact (Kd.S_reads' HO804.out).2.1; rintro e w' ⟨rfl, ⟨nd, rfl⟩⟩; (try first | exact ⟨rfl, _, World.drewN_drewN _ _ _⟩ | exact ⟨rfl, _, Eq.trans (World.drewN_drewN _ _ _) (congrArg (World.drewN _) (Nat.add_assoc _ _ _))⟩); try clear HO800; obtain ⟨Ao61, co61, eo61⟩ := Kd.R_slice HO808.out; subst eo61; obtain ⟨Ao62, co62, eo62⟩ := Kd.R_slice HO812.out; subst eo62) | (go_at_call 16; (with_reducible refine (laws_sameInts.calls kj7 _ _ t806 _ _ t810 t816 _ ?_ ?_ ?_ ?_ A54.out).mono ?_); exact Kd.C_o HO808; exact (Kd.R_reads' HO808.out).2.1; exact Kd.C_o HO812; exact (Kd.R_reads' HO812.out).2.1; rintro e w' ⟨rfl, ⟨nd, rfl⟩⟩; (try first | exact ⟨rfl, _, World.drewN_drewN _ _ _⟩ | exact ⟨rfl, _, Eq.trans (World.drewN_drewN _ _ _) (congrArg (World.drewN _) (Nat.add_assoc _ _ _))⟩)))
        repeat (go_quiet (first | (go_at_call 15; (with_reducible refine (laws_sameLists.calls kj7 _ _ t798 _ _ t802 true _ ?side1 ?_ ?side3 ?_ A51.out).mono ?_); (case side1 => repeat (first | exact (Kd.S_reads' HO800.out).2.2 | (with_reducible refine Kd.C_alloc ?_ _) | (with_reducible refine Kd.C_drewN ?_ _) | (with_reducible refine Kd.C_drew ?_))); exact (Kd.S_reads' HO800.out).2.1; (case side3 => repeat (first | exact (Kd.S_reads' HO804.out).2.2 | (with_reducible refine Kd.C_alloc ?_ _) | (with_reducible refine Kd.C_drewN ?_ _) | (with_reducible refine Kd.C_drew ?_))); exact (Kd.S_reads' HO804.out).2.1; rintro e w' ⟨rfl, ⟨nd, rfl⟩⟩; (try first | exact ⟨rfl, _, World.drewN_drewN _ _ _⟩ | exact ⟨rfl, _, Eq.trans (World.drewN_drewN _ _ _) (congrArg (World.drewN _) (Nat.add_assoc _ _ _))⟩); try clear HO800; obtain ⟨Ao61, co61, eo61⟩ := Kd.R_slice HO808.out; subst eo61; obtain ⟨Ao62, co62, eo62⟩ := Kd.R_slice HO812.out; subst eo62) | (go_at_call 16; (with_reducible refine (laws_sameInts.calls kj7 _ _ t806 _ _ t810 t816 _ ?_ ?_ ?_ ?_ A54.out).mono ?_); exact Kd.C_o HO808; exact (Kd.R_reads' HO808.out).2.1; exact Kd.C_o HO812; exact (Kd.R_reads' HO812.out).2.1; rintro e w' ⟨rfl, ⟨nd, rfl⟩⟩; (try first | exact ⟨rfl, _, World.drewN_drewN _ _ _⟩ | exact ⟨rfl, _, Eq.trans (World.drewN_drewN _ _ _) (congrArg (World.drewN _) (Nat.add_assoc _ _ _))⟩))); try go_wp2_with (first | (go_at_call 15; (with_reducible refine (laws_sameLists.calls kj7 _ _ t798 _ _ t802 true _ ?side1 ?_ ?side3 ?_ A51.out).mono ?_); (case side1 => repeat (first | exact (Kd.S_reads' HO800.out).2.2 | (with_reducible refine Kd.C_alloc ?_ _) | (with_reducible refine Kd.C_drewN ?_ _) | (with_reducible refine Kd.C_drew ?_))); exact (Kd.S_reads' HO800.out).2.1; (case side3 => repeat (first | exact (Kd.S_reads' HO804.out).2.2 | (with_reducible refine Kd.C_alloc ?_ _) | (with_reducible refine Kd.C_drewN ?_ _) | (with_reducible refine Kd.C_drew ?_))); exact (Kd.S_reads' HO804.out).2.1; rintro e w' ⟨rfl, ⟨nd, rfl⟩⟩; (try first | exact ⟨rfl, _, World.drewN_drewN _ _ _⟩ | exact ⟨rfl, _, Eq.trans (World.drewN_drewN _ _ _) (congrArg (World.drewN _) (Nat.add_assoc _ _ _))⟩); try clear HO800; obtain ⟨Ao61, co61, eo61⟩ := Kd.R_slice HO808.out; subst eo61; obtain ⟨Ao62, co62, eo62⟩ := Kd.R_slice HO812.out; subst eo62) | (go_at_call 16; (with_reducible refine (laws_sameInts.calls kj7 _ _ t806 _ _ t810 t816 _ ?_ ?_ ?_ ?_ A54.out).mono ?_); exact Kd.C_o HO808; exact (Kd.R_reads' HO808.out).2.1; exact Kd.C_o HO812; exact (Kd.R_reads' HO812.out).2.1; rintro e w' ⟨rfl, ⟨nd, rfl⟩⟩; (try first | exact ⟨rfl, _, World.drewN_drewN _ _ _⟩ | exact ⟨rfl, _, Eq.trans (World.drewN_drewN _ _ _) (congrArg (World.drewN _) (Nat.add_assoc _ _ _))⟩))))
        refine mt_ hJ_ ⟨_, rfl, ?rel5⟩
        case rel5 => exact ⟨_, (!t816), sr_, H', ⟨by have := HJ7.out; first | omega | exact Nat.le_refl _⟩, ⟨by (with_reducible repeat (first | apply Kd.S_alloc | apply Kd.S_drewN | apply Kd.S_drew)); exact Kd.S_mono HO804.out (fun _ hk => ⟨hk.2, ⟨hk.1.1.1.1.1.1.1.1.2, ⟨hk.1.1.1.1.1.1.1.2, hk.1.1.1.1.1.1.2⟩⟩⟩)⟩, ⟨rm_ (h := HO812.out)⟩, ⟨rm_ (h := HO_779003.out)⟩, ⟨rm_ (h := HO_779004.out)⟩, ⟨rm_ (h := HO_779005.out)⟩, ⟨kp_ BK778⟩, ⟨hb_ HB⟩⟩
       replace c53 := Bool.eq_false_iff.mpr c53
       subst c53
       rw [if_neg (show ¬ (false = true) by decide)] at H
       have H' := am_ H
       clear H
       have := NB797_778.out
       have := NB778_797.out
       obtain ⟨hcz64_0, hcz64_1, hcz64_2, hcz64_3, hcz64_4, hcz64_5, hfz64_0, hfz64_1, hfz64_2, hfz64_3, hfz64_4, hfz64_5⟩ := bx6 BK797
       obtain ⟨hcz65_0, hcz65_1, hcz65_2, hcz65_3, hcz65_4, hcz65_5, hfz65_0, hfz65_1, hfz65_2, hfz65_3, hfz65_4, hfz65_5⟩ := bx6 BK778
       go_wp2_with (first | (go_at_call 14; (with_reducible refine (laws_pSameModel.calls kj7 t784 t785 t786 _ _ t787 _ _ t790 _ _ t793 t766 t767 t768 _ _ t769 _ _ t772 _ _ t775 true _ ?_ ?_ ?_ ?_ ?_ ?_ ?_ ?_ ?_ ?_ ?_ ?_ A48.out).mono ?_); exact Kd.C_o HO789; exact (Kd.R_reads' HO789.out).2.1; exact Kd.C_o HO792; exact (Kd.R_reads' HO792.out).2.1; exact Kd.C_o HO795; exact (Kd.R_reads' HO795.out).2.1; exact Kd.C_o HO_779003; exact (Kd.R_reads' HO_779003.out).2.1; exact Kd.C_o HO_779004; exact (Kd.R_reads' HO_779004.out).2.1; exact Kd.C_o HO_779005; exact (Kd.R_reads' HO_779005.out).2.1; rintro e w66 ⟨rfl, hb⟩; have n0_ := am_ (Kd.R_below (Kd.R_p HO_779003) hb); have n1_ := am_ (Kd.R_below (Kd.R_p HO_779004) hb); have n2_ := am_ (Kd.R_below (Kd.R_p HO_779005) hb); have n3_ := am_ (Kd.R_below (Kd.R_p HO789) hb); have n4_ := am_ (Kd.R_below (Kd.R_p HO792) hb); have n5_ := am_ (Kd.R_below (Kd.R_p HO795) hb); have n6_ := am_ (Kd.S_below (by (with_reducible repeat (first | apply Kd.S_alloc | apply Kd.S_drewN | apply Kd.S_drew)); exact HO800.out) hb); have n7_ := am_ (Kd.S_below (by (with_reducible repeat (first | apply Kd.S_alloc | apply Kd.S_drewN | apply Kd.S_drew)); exact HO804.out) hb); have n8_ := am_ (Kd.R_below (Kd.R_p HO812) hb); have n9_ := am_ (blk_below (kp_ BK778) hb); have n10_ := am_ (blk_below (kp_ BK797) hb); have n11_ := am_ (below_step (hb_ HB) hb); clear HO_779003; clear HO_779004; clear HO_779005; clear HO789; clear HO792; clear HO795; clear HO800; clear HO804; clear HO812; clear BK778; clear BK797; clear HB; have HO_779003 := n0_; have HO_779004 := n1_; have HO_779005 := n2_; have HO789 := n3_; have HO792 := n4_; have HO795 := n5_; have HO800 := n6_; have HO804 := n7_; have HO812 := n8_; have BK778 := n9_; have BK797 := n10_; have HB := n11_; clear n0_ n1_ n2_ n3_ n4_ n5_ n6_ n7_ n8_ n9_ n10_ n11_; try clear BK797; try clear GW797; try clear GE797; try clear NB797_778; try clear NB778_797; try clear HO789; try clear HO792; try clear HO795; obtain ⟨Ao67, co67, eo67⟩ := Kd.S_slice HO800.out; subst eo67; obtain ⟨Ao68, co68, eo68⟩ := Kd.S_slice HO804.out; subst eo68) | (go_at_call 15; (with_reducible refine (laws_sameLists.calls kj7 _ _ t798 _ _ t802 true _ ?side1 ?_ ?side3 ?_ A51.out).mono ?_); (case side1 => repeat (first | exact (Kd.S_reads' HO800.out).2.2 | (with_reducible refine Kd.C_alloc ?_ _) | (with_reducible refine Kd.C_drewN ?_ _) | (with_reducible refine Kd.C_drew ?_))); exact (Kd.S_reads' HO800.out).2.1; (case side3 => repeat (first | exact (Kd.S_reads' HO804.out).2.2 | (with_reducible refine Kd.C_alloc ?_ _) | (with_reducible refine Kd.C_drewN ?_ _) | (with_reducible refine Kd.C_drew ?_))); exact (Kd.S_reads' HO804.out).2.1; rintro e w' ⟨rfl, ⟨nd, rfl⟩⟩; (try first | exact ⟨rfl, _, World.drewN_drewN _ _ _⟩ | exact ⟨rfl, _, Eq.trans (World.drewN_drewN _ _ _) (congrArg (World.drewN _) (Nat.add_assoc _ _ _))⟩)))
       repeat (go_quiet (first | (go_at_call 15; (with_reducible refine (laws_sameLists.calls kj7 _ _ t798 _ _ t802 true _ ?side1 ?_ ?side3 ?_ A51.out).mono ?_); (case side1 => repeat (first | exact (Kd.S_reads' HO800.out).2.2 | (with_reducible refine Kd.C_alloc ?_ _) | (with_reducible refine Kd.C_drewN ?_ _) | (with_reducible refine Kd.C_drew ?_))); exact (Kd.S_reads' HO800.out).2.1; (case side3 => repeat (first | exact (Kd.S_reads' HO804.out).2.2 | (with_reducible refine Kd.C_alloc ?_ _) | (with_reducible refine Kd.C_drewN ?_ _) | (with_reducible refine Kd.C_drew ?_))); exact (Kd.S_reads' HO804.out).2.1; rintro e w' ⟨rfl, ⟨nd, rfl⟩⟩; (try first | exact ⟨rfl, _, World.drewN_drewN _ _ _⟩ | exact ⟨rfl, _, Eq.trans (World.drewN_drewN _ _ _) (congrArg (World.drewN _) (Nat.add_assoc _ _ _))⟩))); try go_wp2_with (first | (go_at_call 15; (with_reducible refine (laws_sameLists.calls kj7 _ _ t798 _ _ t802 true _ ?side1 ?_ ?side3 ?_ A51.out).mono ?_); (case side1 => repeat (first | exact (Kd.S_reads' HO800.out).2.2 | (with_reducible refine Kd.C_alloc ?_ _) | (with_reducible refine Kd.C_drewN ?_ _) | (with_reducible refine Kd.C_drew ?_))); exact (Kd.S_reads' HO800.out).2.1; (case side3 => repeat (first | exact (Kd.S_reads' HO804.out).2.2 | (with_reducible refine Kd.C_alloc ?_ _) | (with_reducible refine Kd.C_drewN ?_ _) | (with_reducible refine Kd.C_drew ?_))); exact (Kd.S_reads' HO804.out).2.1; rintro e w' ⟨rfl, ⟨nd, rfl⟩⟩; (try first | exact ⟨rfl, _, World.drewN_drewN _ _ _⟩ | exact ⟨rfl, _, Eq.trans (World.drewN_drewN _ _ _) (congrArg (World.drewN _) (Nat.add_assoc _ _ _))⟩))))
       refine mt_ hJ_ ⟨_, rfl, ?rel6⟩
       case rel6 => exact ⟨_, (true), sr_, H', ⟨by have := HJ7.out; first | omega | exact Nat.le_refl _⟩, ⟨by (with_reducible repeat (first | apply Kd.S_alloc | apply Kd.S_drewN | apply Kd.S_drew)); exact Kd.S_mono HO804.out (fun _ hk => ⟨hk.2, ⟨hk.1.1.1.1.1.1.1.1.2, ⟨hk.1.1.1.1.1.1.1.2, hk.1.1.1.1.1.1.2⟩⟩⟩)⟩, ⟨rm_ (h := HO812.out)⟩, ⟨rm_ (h := HO_779003.out)⟩, ⟨rm_ (h := HO_779004.out)⟩, ⟨rm_ (h := HO_779005.out)⟩, ⟨kp_ BK778⟩, ⟨hb_ HB⟩⟩
      replace c52 := Bool.eq_false_iff.mpr c52
      subst c52
      rw [if_neg (show ¬ (false = true) by decide)] at H
      have H' := am_ H
      clear H
      have := NB797_778.out
      have := NB778_797.out
      obtain ⟨hcz70_0, hcz70_1, hcz70_2, hcz70_3, hcz70_4, hcz70_5, hfz70_0, hfz70_1, hfz70_2, hfz70_3, hfz70_4, hfz70_5⟩ := bx6 BK797
      obtain ⟨hcz71_0, hcz71_1, hcz71_2, hcz71_3, hcz71_4, hcz71_5, hfz71_0, hfz71_1, hfz71_2, hfz71_3, hfz71_4, hfz71_5⟩ := bx6 BK778
      go_wp2_with (first | (go_at_call 14; (with_reducible refine (laws_pSameModel.calls kj7 t784 t785 t786 _ _ t787 _ _ t790 _ _ t793 t766 t767 t768 _ _ t769 _ _ t772 _ _ t775 true _ ?_ ?_ ?_ ?_ ?_ ?_ ?_ ?_ ?_ ?_ ?_ ?_ A48.out).mono ?_); exact Kd.C_o HO789; exact (Kd.R_reads' HO789.out).2.1; exact Kd.C_o HO792; exact (Kd.R_reads' HO792.out).2.1; exact Kd.C_o HO795; exact (Kd.R_reads' HO795.out).2.1; exact Kd.C_o HO_779003; exact (Kd.R_reads' HO_779003.out).2.1; exact Kd.C_o HO_779004; exact (Kd.R_reads' HO_779004.out).2.1; exact Kd.C_o HO_779005; exact (Kd.R_reads' HO_779005.out).2.1; rintro e w72 ⟨rfl, hb⟩; have n0_ := am_ (Kd.R_below (Kd.R_p HO_779003) hb); have n1_ := am_ (Kd.R_below (Kd.R_p HO_779004) hb); have n2_ := am_ (Kd.R_below (Kd.R_p HO_779005) hb); have n3_ := am_ (Kd.R_below (Kd.R_p HO789) hb); have n4_ := am_ (Kd.R_below (Kd.R_p HO792) hb); have n5_ := am_ (Kd.R_below (Kd.R_p HO795) hb); have n6_ := am_ (Kd.S_below (by (with_reducible repeat (first | apply Kd.S_alloc | apply Kd.S_drewN | apply Kd.S_drew)); exact HO800.out) hb); have n7_ := am_ (Kd.S_below (by (with_reducible repeat (first | apply Kd.S_alloc | apply Kd.S_drewN | apply Kd.S_drew)); exact HO804.out) hb); have n8_ := am_ (Kd.R_below (Kd.R_p HO812) hb); have n9_ := am_ (blk_below (kp_ BK778) hb); have n10_ := am_ (blk_below (kp_ BK797) hb); have n11_ := am_ (below_step (hb_ HB) hb); clear HO_779003; clear HO_779004; clear HO_779005; clear HO789; clear HO792; clear HO795; clear HO800; clear HO804; clear HO812; clear BK778; clear BK797; clear HB; have HO_779003 := n0_; have HO_779004 := n1_; have HO_779005 := n2_; have HO789 := n3_; have HO792 := n4_; have HO795 := n5_; have HO800 := n6_; have HO804 := n7_; have HO812 := n8_; have BK778 := n9_; have BK797 := n10_; have HB := n11_; clear n0_ n1_ n2_ n3_ n4_ n5_ n6_ n7_ n8_ n9_ n10_ n11_; try clear BK797; try clear GW797; try clear GE797; try clear NB797_778; try clear NB778_797; try clear HO789; try clear HO792; try clear HO795; obtain ⟨Ao73, co73, eo73⟩ := Kd.S_slice HO800.out; subst eo73; obtain ⟨Ao74, co74, eo74⟩ := Kd.S_slice HO804.out; subst eo74) | (go_at_call 15; (with_reducible refine (laws_sameLists.calls kj7 _ _ t798 _ _ t802 false _ ?side1 ?_ ?side3 ?_ A51.out).mono ?_); (case side1 => repeat (first | exact (Kd.S_reads' HO800.out).2.2 | (with_reducible refine Kd.C_alloc ?_ _) | (with_reducible refine Kd.C_drewN ?_ _) | (with_reducible refine Kd.C_drew ?_))); exact (Kd.S_reads' HO800.out).2.1; (case side3 => repeat (first | exact (Kd.S_reads' HO804.out).2.2 | (with_reducible refine Kd.C_alloc ?_ _) | (with_reducible refine Kd.C_drewN ?_ _) | (with_reducible refine Kd.C_drew ?_))); exact (Kd.S_reads' HO804.out).2.1; rintro e w' ⟨rfl, ⟨nd, rfl⟩⟩; (try first | exact ⟨rfl, _, World.drewN_drewN _ _ _⟩ | exact ⟨rfl, _, Eq.trans (World.drewN_drewN _ _ _) (congrArg (World.drewN _) (Nat.add_assoc _ _ _))⟩)))
      repeat (go_quiet (first | (go_at_call 15; (with_reducible refine (laws_sameLists.calls kj7 _ _ t798 _ _ t802 false _ ?side1 ?_ ?side3 ?_ A51.out).mono ?_); (case side1 => repeat (first | exact (Kd.S_reads' HO800.out).2.2 | (with_reducible refine Kd.C_alloc ?_ _) | (with_reducible refine Kd.C_drewN ?_ _) | (with_reducible refine Kd.C_drew ?_))); exact (Kd.S_reads' HO800.out).2.1; (case side3 => repeat (first | exact (Kd.S_reads' HO804.out).2.2 | (with_reducible refine Kd.C_alloc ?_ _) | (with_reducible refine Kd.C_drewN ?_ _) | (with_reducible refine Kd.C_drew ?_))); exact (Kd.S_reads' HO804.out).2.1; rintro e w' ⟨rfl, ⟨nd, rfl⟩⟩; (try first | exact ⟨rfl, _, World.drewN_drewN _ _ _⟩ | exact ⟨rfl, _, Eq.trans (World.drewN_drewN _ _ _) (congrArg (World.drewN _) (Nat.add_assoc _ _ _))⟩))); try go_wp2_with (first | (go_at_call 15; (with_reducible refine (laws_sameLists.calls kj7 _ _ t798 _ _ t802 false _ ?side1 ?_ ?side3 ?_ A51.out).mono ?_); (case side1 => repeat (first | exact (Kd.S_reads' HO800.out).2.2 | (with_reducible refine Kd.C_alloc ?_ _) | (with_reducible refine Kd.C_drewN ?_ _) | (with_reducible refine Kd.C_drew ?_))); exact (Kd.S_reads' HO800.out).2.1; (case side3 => repeat (first | exact (Kd.S_reads' HO804.out).2.2 | (with_reducible refine Kd.C_alloc ?_ _) | (with_reducible refine Kd.C_drewN ?_ _) | (with_reducible refine Kd.C_drew ?_))); exact (Kd.S_reads' HO804.out).2.1; rintro e w' ⟨rfl, ⟨nd, rfl⟩⟩; (try first | exact ⟨rfl, _, World.drewN_drewN _ _ _⟩ | exact ⟨rfl, _, Eq.trans (World.drewN_drewN _ _ _) (congrArg (World.drewN _) (Nat.add_assoc _ _ _))⟩))))
      refine mt_ hJ_ ⟨_, rfl, ?rel7⟩
      case rel7 => exact ⟨_, (true), sr_, H', ⟨by have := HJ7.out; first | omega | exact Nat.le_refl _⟩, ⟨by (with_reducible repeat (first | apply Kd.S_alloc | apply Kd.S_drewN | apply Kd.S_drew)); exact Kd.S_mono HO804.out (fun _ hk => ⟨hk.2, ⟨hk.1.1.1.1.1.1.1.1.2, ⟨hk.1.1.1.1.1.1.1.2, hk.1.1.1.1.1.1.2⟩⟩⟩)⟩, ⟨rm_ (h := HO812.out)⟩, ⟨rm_ (h := HO_779003.out)⟩, ⟨rm_ (h := HO_779004.out)⟩, ⟨rm_ (h := HO_779005.out)⟩, ⟨kp_ BK778⟩, ⟨hb_ HB⟩⟩
     replace c50 := Bool.eq_false_iff.mpr c50
     subst c50
     rw [if_neg (show ¬ (false = true) by decide)] at H
     have H' := am_ H
     clear H
     have := NB797_778.out
     have := NB778_797.out
     obtain ⟨hcz76_0, hcz76_1, hcz76_2, hcz76_3, hcz76_4, hcz76_5, hfz76_0, hfz76_1, hfz76_2, hfz76_3, hfz76_4, hfz76_5⟩ := bx6 BK797
     obtain ⟨hcz77_0, hcz77_1, hcz77_2, hcz77_3, hcz77_4, hcz77_5, hfz77_0, hfz77_1, hfz77_2, hfz77_3, hfz77_4, hfz77_5⟩ := bx6 BK778
     go_wp2_with (first | (go_at_call 14; (with_reducible refine (laws_pSameModel.calls kj7 t784 t785 t786 _ _ t787 _ _ t790 _ _ t793 t766 t767 t768 _ _ t769 _ _ t772 _ _ t775 true _ ?_ ?_ ?_ ?_ ?_ ?_ ?_ ?_ ?_ ?_ ?_ ?_ A48.out).mono ?_); exact Kd.C_o HO789; exact (Kd.R_reads' HO789.out).2.1; exact Kd.C_o HO792; exact (Kd.R_reads' HO792.out).2.1; exact Kd.C_o HO795; exact (Kd.R_reads' HO795.out).2.1; exact Kd.C_o HO_779003; exact (Kd.R_reads' HO_779003.out).2.1; exact Kd.C_o HO_779004; exact (Kd.R_reads' HO_779004.out).2.1; exact Kd.C_o HO_779005; exact (Kd.R_reads' HO_779005.out).2.1; rintro e w78 ⟨rfl, hb⟩; have n0_ := am_ (Kd.R_below (Kd.R_p HO_779003) hb); have n1_ := am_ (Kd.R_below (Kd.R_p HO_779004) hb); have n2_ := am_ (Kd.R_below (Kd.R_p HO_779005) hb); have n3_ := am_ (Kd.R_below (Kd.R_p HO789) hb); have n4_ := am_ (Kd.R_below (Kd.R_p HO792) hb); have n5_ := am_ (Kd.R_below (Kd.R_p HO795) hb); have n6_ := am_ (Kd.S_below (by (with_reducible repeat (first | apply Kd.S_alloc | apply Kd.S_drewN | apply Kd.S_drew)); exact HO804.out) hb); have n7_ := am_ (Kd.R_below (Kd.R_p HO812) hb); have n8_ := am_ (blk_below (kp_ BK778) hb); have n9_ := am_ (blk_below (kp_ BK797) hb); have n10_ := am_ (below_step (hb_ HB) hb); clear HO_779003; clear HO_779004; clear HO_779005; clear HO789; clear HO792; clear HO795; clear HO804; clear HO812; clear BK778; clear BK797; clear HB; have HO_779003 := n0_; have HO_779004 := n1_; have HO_779005 := n2_; have HO789 := n3_; have HO792 := n4_; have HO795 := n5_; have HO804 := n6_; have HO812 := n7_; have BK778 := n8_; have BK797 := n9_; have HB := n10_; clear n0_ n1_ n2_ n3_ n4_ n5_ n6_ n7_ n8_ n9_ n10_))
     repeat (go_quiet (fail); try go_wp2)
     refine mt_ hJ_ ⟨_, rfl, ?rel8⟩
     case rel8 => exact ⟨_, (true), sr_, H', ⟨by have := HJ7.out; first | omega | exact Nat.le_refl _⟩, ⟨by (with_reducible repeat (first | apply Kd.S_alloc | apply Kd.S_drewN | apply Kd.S_drew)); exact Kd.S_mono HO804.out (fun _ hk => ⟨hk.2, ⟨hk.1.1.1.1.1.1.1.1.2, ⟨hk.1.1.1.1.1.1.1.2, hk.1.1.1.1.1.1.2⟩⟩⟩)⟩, ⟨rm_ (h := HO812.out)⟩, ⟨rm_ (h := HO_779003.out)⟩, ⟨rm_ (h := HO_779004.out)⟩, ⟨rm_ (h := HO_779005.out)⟩, ⟨kp_ BK778⟩, ⟨hb_ HB⟩⟩
    replace c49 := Bool.eq_false_iff.mpr c49
    subst c49
    rw [if_neg (show ¬ (false = true) by decide)] at H
    have H' := am_ H
    clear H
    have := NB797_778.out
    have := NB778_797.out
    obtain ⟨hcz80_0, hcz80_1, hcz80_2, hcz80_3, hcz80_4, hcz80_5, hfz80_0, hfz80_1, hfz80_2, hfz80_3, hfz80_4, hfz80_5⟩ := bx6 BK797
    obtain ⟨hcz81_0, hcz81_1, hcz81_2, hcz81_3, hcz81_4, hcz81_5, hfz81_0, hfz81_1, hfz81_2, hfz81_3, hfz81_4, hfz81_5⟩ := bx6 BK778
    go_wp2_with (first | (go_at_call 14; (with_reducible refine (laws_pSameModel.calls kj7 t784 t785 t786 _ _ t787 _ _ t790 _ _ t793 t766 t767 t768 _ _ t769 _ _ t772 _ _ t775 false _ ?_ ?_ ?_ ?_ ?_ ?_ ?_ ?_ ?_ ?_ ?_ ?_ A48.out).mono ?_); exact Kd.C_o HO789; exact (Kd.R_reads' HO789.out).2.1; exact Kd.C_o HO792; exact (Kd.R_reads' HO792.out).2.1; exact Kd.C_o HO795; exact (Kd.R_reads' HO795.out).2.1; exact Kd.C_o HO_779003; exact (Kd.R_reads' HO_779003.out).2.1; exact Kd.C_o HO_779004; exact (Kd.R_reads' HO_779004.out).2.1; exact Kd.C_o HO_779005; exact (Kd.R_reads' HO_779005.out).2.1; rintro e w82 ⟨rfl, hb⟩; have n0_ := am_ (Kd.R_below (Kd.R_p HO_779003) hb); have n1_ := am_ (Kd.R_below (Kd.R_p HO_779004) hb); have n2_ := am_ (Kd.R_below (Kd.R_p HO_779005) hb); have n3_ := am_ (Kd.R_below (Kd.R_p HO789) hb); have n4_ := am_ (Kd.R_below (Kd.R_p HO792) hb); have n5_ := am_ (Kd.R_below (Kd.R_p HO795) hb); have n6_ := am_ (Kd.S_below (by (with_reducible repeat (first | apply Kd.S_alloc | apply Kd.S_drewN | apply Kd.S_drew)); exact HO804.out) hb); have n7_ := am_ (Kd.R_below (Kd.R_p HO812) hb); have n8_ := am_ (blk_below (kp_ BK778) hb); have n9_ := am_ (blk_below (kp_ BK797) hb); have n10_ := am_ (below_step (hb_ HB) hb); clear HO_779003; clear HO_779004; clear HO_779005; clear HO789; clear HO792; clear HO795; clear HO804; clear HO812; clear BK778; clear BK797; clear HB; have HO_779003 := n0_; have HO_779004 := n1_; have HO_779005 := n2_; have HO789 := n3_; have HO792 := n4_; have HO795 := n5_; have HO804 := n6_; have HO812 := n7_; have BK778 := n8_; have BK797 := n9_; have HB := n10_; clear n0_ n1_ n2_ n3_ n4_ n5_ n6_ n7_ n8_ n9_ n10_))
    repeat (go_quiet (fail); try go_wp2)
    refine mt_ hJ_ ⟨_, rfl, ?rel9⟩
    case rel9 => exact ⟨_, (true), sr_, H', ⟨by have := HJ7.out; first | omega | exact Nat.le_refl _⟩, ⟨by (with_reducible repeat (first | apply Kd.S_alloc | apply Kd.S_drewN | apply Kd.S_drew)); exact Kd.S_mono HO804.out (fun _ hk => ⟨hk.2, ⟨hk.1.1.1.1.1.1.1.1.2, ⟨hk.1.1.1.1.1.1.1.2, hk.1.1.1.1.1.1.2⟩⟩⟩)⟩, ⟨rm_ (h := HO812.out)⟩, ⟨rm_ (h := HO_779003.out)⟩, ⟨rm_ (h := HO_779004.out)⟩, ⟨rm_ (h := HO_779005.out)⟩, ⟨kp_ BK778⟩, ⟨hb_ HB⟩⟩
   replace c47 := Bool.eq_false_iff.mpr c47
   subst c47
   rw [if_neg (show ¬ (false = true) by decide)] at H
   have H' := am_ H
   clear H
   go_wp2
   repeat (go_quiet (fail); try go_wp2)
   refine mt_ hJ_ ⟨_, rfl, ?rel10⟩
   case rel10 => exact ⟨_, (true), sr_, H', ⟨by have := HJ7.out; first | omega | exact Nat.le_refl _⟩, ⟨by (with_reducible repeat (first | apply Kd.S_alloc | apply Kd.S_drewN | apply Kd.S_drew)); exact Kd.S_mono HO804.out (fun _ hk => ⟨hk.2, ⟨hk.1.1.1.1.1.1.1.1.2, ⟨hk.1.1.1.1.1.1.1.2, hk.1.1.1.1.1.1.2⟩⟩⟩)⟩, ⟨rm_ (h := HO812.out)⟩, ⟨rm_ (h := HO_779003.out)⟩, ⟨rm_ (h := HO_779004.out)⟩, ⟨rm_ (h := HO_779005.out)⟩, ⟨kp_ BK778⟩, ⟨hb_ HB⟩⟩
  repeat intro _
  refine ⟨fun wc hcut => ?_⟩
  obtain ⟨v128, h128_, hcut⟩ := hcut; obtain rfl := Option.some.inj h128_
  clear HC31
  obtain ⟨kq, x128_30, rfl, HA, HJ30, HO_14, HO_18, HO_779003, HO_779004, HO_779005, BK778, HB⟩ := hcut
  cases kq with
  | zero => exact absurd HA.out (by simp [laws_FnModels.j1])
  | succ kj30 => ?_
  have H := HA.out
  clear HA
  simp only [laws_FnModels.j1] at H
  by_cases c83 : x128_30 = true
  ·subst c83
   rw [if_pos rfl] at H
   obtain rfl := Option.some.inj H
   go_wp2
   repeat (go_quiet (fail); try go_wp2)
   go_ret
   exact ad_ (hb_ HB)
  replace c83 := Bool.eq_false_iff.mpr c83
  subst c83
  rw [if_neg (show ¬ (false = true) by decide)] at H
  have H' := am_ H
  clear H
  obtain ⟨Ao84, co84, eo84⟩ := Kd.S_slice HO_14.out
  subst eo84
  go_wp2
  repeat (go_quiet (fail); try go_wp2)
  go_loopg [20, 131] kj30 (fun kq v20 v131 w' => ∃ (x20_3 : Int) (x131_3 : Int), v20 = .int .i64 x20_3 ∧ v131 = .int .i64 x131_3 ∧ Aside0 (laws_FnModels.l0 kq l1 t810 x20_3 t802 (t802.length : Int) x131_3 t766 t767 t768 t769 t772 t775 = some r) ∧ Aside0 (kq ≤ kj30) ∧ Aside0 (Kd.R (Kd.int .i64) 3 w' w.heap.size (fun k_ => some k_ ≠ ((.slice Ao12 t769.length co12) : Value).ownBlock ∧ some k_ ≠ ((.slice Ao13 t772.length co13) : Value).ownBlock ∧ some k_ ≠ ((.slice Ao14 t775.length co14) : Value).ownBlock) v811 t810) ∧ Aside0 (Kd.S (Kd.slice 3 (Kd.int .i64)) 26 w' w.heap.size (fun k_ => some k_ ≠ (v811 : Value).ownBlock ∧ some k_ ≠ ((.slice Ao12 t769.length co12) : Value).ownBlock ∧ some k_ ≠ ((.slice Ao13 t772.length co13) : Value).ownBlock ∧ some k_ ≠ ((.slice Ao14 t775.length co14) : Value).ownBlock) (.slice Ao84 t802.length co84) t802) ∧ Aside0 (Kd.R (Kd.int .i64) 3 w' w.heap.size (fun k_ => some k_ ≠ (v811 : Value).ownBlock ∧ some k_ ≠ ((.slice Ao13 t772.length co13) : Value).ownBlock ∧ some k_ ≠ ((.slice Ao14 t775.length co14) : Value).ownBlock) (.slice Ao12 t769.length co12) t769) ∧ Aside0 (Kd.R (Kd.int .i64) 3 w' w.heap.size (fun k_ => some k_ ≠ (v811 : Value).ownBlock ∧ some k_ ≠ ((.slice Ao12 t769.length co12) : Value).ownBlock ∧ some k_ ≠ ((.slice Ao14 t775.length co14) : Value).ownBlock) (.slice Ao13 t772.length co13) t772) ∧ Aside0 (Kd.R (Kd.int .i64) 3 w' w.heap.size (fun k_ => some k_ ≠ (v811 : Value).ownBlock ∧ some k_ ≠ ((.slice Ao12 t769.length co12) : Value).ownBlock ∧ some k_ ≠ ((.slice Ao13 t772.length co13) : Value).ownBlock) (.slice Ao14 t775.length co14) t775) ∧ Aside0 (w'.heap[gb778]? = some (.cells #[.int .i64 t766, .int .i64 t767, .int .i64 t768, (.slice Ao12 t769.length co12), (.slice Ao13 t772.length co13), (.slice Ao14 t775.length co14)] 28 (0, 0))) ∧ Aside0 (Below w.heap.size w w'))
  case atStart => exact ⟨(0), (0), sr_, sr_, H', ⟨Nat.le_refl _⟩, ⟨Kd.R_p HO_18⟩, ⟨by (with_reducible repeat (first | apply Kd.S_alloc | apply Kd.S_drewN | apply Kd.S_drew)); exact HO_14.out⟩, ⟨Kd.R_p HO_779003⟩, ⟨Kd.R_p HO_779004⟩, ⟨Kd.R_p HO_779005⟩, ⟨kp_ BK778⟩, ⟨hb_ HB⟩⟩
  clear H'
  obtain ⟨x20_3, x131_3, rfl, rfl, HA, HK3, HO_18, HO_129, HO_779003, HO_779004, HO_779005, BK778, HB⟩ := hrel
  cases gk with
  | zero => exact absurd HA.out (by simp [laws_FnModels.l0])
  | succ k3 => ?_
  have H := HA.out
  clear HA
  simp only [laws_FnModels.l0] at H
  by_cases c85 : x131_3 < (t802.length : Int)
  ·rw [if_pos c85] at H
   have c85b0 := decide_eq_true c85
   clear c85
   revert H; refine pd_ fun c86b0 H => ?_
   revert H; refine pd_ fun c87b0 H => ?_
   revert H; refine pf_ fun c88 H => ?_
   have c88b0 := decide_eq_true c88
   have c88b1 : decide (0 < (rd_L6 t802 x131_3).length) = true := decide_eq_true (by omega)
   clear c88
   have H' := am_ H
   clear H
   have p817 : 0 ≤ (x131_3 : Int) := od_
   have q817 : x131_3 < (t802.length : Int) := od_
   obtain ⟨ad817, A817_0, c817_0, e817, hx817_0, hl817_0, hi817_0⟩ := at_L6 (Kd.S_reads' HO_129.out).2.2 x131_3 p817 q817
   cases e817
   obtain ⟨ce817, hce817, hMe817, hcc817⟩ := Kd.S_get HO_129.out [] x131_3 p817 (by first | exact q817 | exact od_ | (have e_ := (Kd.S_reads' HO_129.out).1; omega))
   obtain ⟨ve817_0, rfl, ge817_0⟩ := hMe817
   have hv817_0 := hcc817 0 _ rfl
   rw [Nat.add_zero, show ((Kd.slice 3 (Kd.int .i64))).sz = 1 from rfl, Nat.mul_one] at hv817_0
   replace hv817_0 := Option.some.inj (hv817_0.symm.trans hx817_0)
   rw [hv817_0] at ge817_0
   have HL817_0 := am_ (show Kd.R (Kd.int .i64) 3 _ _ _ _ (rd_L6 t802 x131_3) from ge817_0)
   clear hv817_0 ge817_0
   clear hcc817 hce817
   have HR817_0 := am_ hi817_0
   have HC817_0 := am_ hl817_0
   clear hi817_0 hl817_0
   replace p817 := eq_true p817
   replace q817 := eq_true q817
   have p818 : 0 ≤ (0 : Int) := (by omega)
   have q818 : 0 < ((rd_L6 t802 x131_3).length : Int) := od_
   obtain ⟨ad818, e818, hx818_0⟩ := Kd.at_int (by repeat (first | (with_reducible exact HR817_0.out) | (with_reducible refine Kd.C_alloc ?_ _) | (with_reducible refine Kd.C_drewN ?_ _) | (with_reducible refine Kd.C_drew ?_) | exact HR817_0.out)) 0 p818 q818
   cases e818
   have qi818 : (0 < (rd_L6 t802 x131_3).length) = True := eq_true (by omega)
   (try rw [show ((0 : Int)).toNat = 0 from rfl] at hx818_0)
   (try rw [Addr.add_zero'] at hx818_0)
   replace p818 := eq_true p818
   replace q818 := eq_true q818
   go_wp2
   repeat (go_quiet (fail); try go_wp2)
   go_roundg k3
   case measure => have := HJ7.out; have := HJ30.out; have := HK3.out; omega
   case rel => exact ⟨(wrap64 (x20_3 + (rd (rd_L6 t802 x131_3) 0))), (wrap64 (x131_3 + 1)), sr_, sr_, H', ⟨by have := HJ7.out; have := HJ30.out; have := HK3.out; omega⟩, ⟨Kd.R_p HO_18⟩, ⟨by (with_reducible repeat (first | apply Kd.S_alloc | apply Kd.S_drewN | apply Kd.S_drew)); exact HO_129.out⟩, ⟨Kd.R_p HO_779003⟩, ⟨Kd.R_p HO_779004⟩, ⟨Kd.R_p HO_779005⟩, ⟨kp_ BK778⟩, ⟨hb_ HB⟩⟩
  rw [if_neg c85] at H
  have c85b0 := decide_eq_false c85
  clear c85
  have HC89 := am_ H
  clear H
  go_upto_region 22 with (fail)
  repeat (go_quiet (fail); go_upto_region 22 with (fail))
  refine wp_cutF [1,1,1,1,1,1,1,1,1,1,1,1,1,1,1,1,1,1,1,1,1,1,1,1,1,1,1,1,1,1,1,1,1,1,1,1,1,1,1,1,1,1,1,1,1,1] (fun us wc => ∃ v151 : Value, us[151]? = some v151 ∧ ∃ (kq : Nat) (x151_88 : Bool), v151 = .bool x151_88 ∧ Aside0 (laws_FnModels.j3 kq l1 x151_88 t766 t767 t768 t769 t772 t775 = some r) ∧ Aside0 (kq ≤ k3) ∧ Aside0 (Kd.R (Kd.int .i64) 3 wc w.heap.size (fun k_ => some k_ ≠ ((.slice Ao13 t772.length co13) : Value).ownBlock ∧ some k_ ≠ ((.slice Ao14 t775.length co14) : Value).ownBlock) (.slice Ao12 t769.length co12) t769) ∧ Aside0 (Kd.R (Kd.int .i64) 3 wc w.heap.size (fun k_ => some k_ ≠ ((.slice Ao12 t769.length co12) : Value).ownBlock ∧ some k_ ≠ ((.slice Ao14 t775.length co14) : Value).ownBlock) (.slice Ao13 t772.length co13) t772) ∧ Aside0 (Kd.R (Kd.int .i64) 3 wc w.heap.size (fun k_ => some k_ ≠ ((.slice Ao12 t769.length co12) : Value).ownBlock ∧ some k_ ≠ ((.slice Ao13 t772.length co13) : Value).ownBlock) (.slice Ao14 t775.length co14) t775) ∧ Aside0 (wc.heap[gb778]? = some (.cells #[.int .i64 t766, .int .i64 t767, .int .i64 t768, (.slice Ao12 t769.length co12), (.slice Ao13 t772.length co13), (.slice Ao14 t775.length co14)] 28 (0, 0))) ∧ Aside0 (Below w.heap.size w wc)) ?first4 ?rest4
  case first4 =>
   intro J_ K_ hJ_ hK_
   have H := HC89.out
   clear HC89
   revert H; refine bn_ ?_; rintro t819 A90 H; try dsimp only at H
   by_cases c91 : x20_3 = t819
   ·rw [if_pos c91] at H
    have c91b0 : (x20_3 == t819) = true := beq_iff_eq.mpr c91
    have c91b1 : (x20_3 != t819) = false := bne_eq_false_iff_eq.mpr c91
    clear c91
    (first | rw [c91b0] | (simp only [i64_w, i32_w]; rw [c91b0]) | skip)
    revert H; refine bn_ ?_; rintro t820 A92 H; try dsimp only at H
    have H' := am_ H
    clear H
    obtain ⟨hcz93_0, hcz93_1, hcz93_2, hcz93_3, hcz93_4, hcz93_5, hfz93_0, hfz93_1, hfz93_2, hfz93_3, hfz93_4, hfz93_5⟩ := bx6 BK778
    go_wp2_with (first | (go_at_call 17; (with_reducible refine (laws_pSum.calls k3 _ _ t769 t819 _ ?_ ?_ A90.out).mono ?_); exact Kd.C_o HO_779003; exact (Kd.R_reads' HO_779003.out).2.1; rintro e w' ⟨rfl, ⟨nd, rfl⟩⟩; (try first | exact ⟨rfl, _, World.drewN_drewN _ _ _⟩ | exact ⟨rfl, _, Eq.trans (World.drewN_drewN _ _ _) (congrArg (World.drewN _) (Nat.add_assoc _ _ _))⟩); obtain ⟨Ao94, co94, eo94⟩ := Kd.R_slice HO_18.out; subst eo94) | (go_at_call 17; (with_reducible refine (laws_pSum.calls k3 _ _ t810 t820 _ ?_ ?_ A92.out).mono ?_); exact Kd.C_o HO_18; exact (Kd.R_reads' HO_18.out).2.1; rintro e w' ⟨rfl, ⟨nd, rfl⟩⟩; (try first | exact ⟨rfl, _, World.drewN_drewN _ _ _⟩ | exact ⟨rfl, _, Eq.trans (World.drewN_drewN _ _ _) (congrArg (World.drewN _) (Nat.add_assoc _ _ _))⟩)))
    repeat (go_quiet (first | (go_at_call 17; (with_reducible refine (laws_pSum.calls k3 _ _ t769 t819 _ ?_ ?_ A90.out).mono ?_); exact Kd.C_o HO_779003; exact (Kd.R_reads' HO_779003.out).2.1; rintro e w' ⟨rfl, ⟨nd, rfl⟩⟩; (try first | exact ⟨rfl, _, World.drewN_drewN _ _ _⟩ | exact ⟨rfl, _, Eq.trans (World.drewN_drewN _ _ _) (congrArg (World.drewN _) (Nat.add_assoc _ _ _))⟩); obtain ⟨Ao94, co94, eo94⟩ := Kd.R_slice HO_18.out; subst eo94) | (go_at_call 17; (with_reducible refine (laws_pSum.calls k3 _ _ t810 t820 _ ?_ ?_ A92.out).mono ?_); exact Kd.C_o HO_18; exact (Kd.R_reads' HO_18.out).2.1; rintro e w' ⟨rfl, ⟨nd, rfl⟩⟩; (try first | exact ⟨rfl, _, World.drewN_drewN _ _ _⟩ | exact ⟨rfl, _, Eq.trans (World.drewN_drewN _ _ _) (congrArg (World.drewN _) (Nat.add_assoc _ _ _))⟩))); try go_wp2_with (first | (go_at_call 17; (with_reducible refine (laws_pSum.calls k3 _ _ t769 t819 _ ?_ ?_ A90.out).mono ?_); exact Kd.C_o HO_779003; exact (Kd.R_reads' HO_779003.out).2.1; rintro e w' ⟨rfl, ⟨nd, rfl⟩⟩; (try first | exact ⟨rfl, _, World.drewN_drewN _ _ _⟩ | exact ⟨rfl, _, Eq.trans (World.drewN_drewN _ _ _) (congrArg (World.drewN _) (Nat.add_assoc _ _ _))⟩); obtain ⟨Ao94, co94, eo94⟩ := Kd.R_slice HO_18.out; subst eo94) | (go_at_call 17; (with_reducible refine (laws_pSum.calls k3 _ _ t810 t820 _ ?_ ?_ A92.out).mono ?_); exact Kd.C_o HO_18; exact (Kd.R_reads' HO_18.out).2.1; rintro e w' ⟨rfl, ⟨nd, rfl⟩⟩; (try first | exact ⟨rfl, _, World.drewN_drewN _ _ _⟩ | exact ⟨rfl, _, Eq.trans (World.drewN_drewN _ _ _) (congrArg (World.drewN _) (Nat.add_assoc _ _ _))⟩))))
    refine mt_ hJ_ ⟨_, rfl, ?rel11⟩
    case rel11 => exact ⟨_, ((t820 != x20_3)), sr_, H', ⟨by have := HJ7.out; have := HJ30.out; have := HK3.out; first | omega | exact Nat.le_refl _⟩, ⟨rm_ (h := HO_779003.out)⟩, ⟨rm_ (h := HO_779004.out)⟩, ⟨rm_ (h := HO_779005.out)⟩, ⟨kp_ BK778⟩, ⟨hb_ HB⟩⟩
   rw [if_neg c91] at H
   have c91b0 : (x20_3 == t819) = false := beq_eq_false_iff_ne.mpr c91
   have c91b1 : (x20_3 != t819) = true := bne_iff_ne.mpr c91
   (first | rw [c91b0] | (simp only [i64_w, i32_w]; rw [c91b0]) | skip)
   have H' := am_ H
   clear H
   obtain ⟨hcz95_0, hcz95_1, hcz95_2, hcz95_3, hcz95_4, hcz95_5, hfz95_0, hfz95_1, hfz95_2, hfz95_3, hfz95_4, hfz95_5⟩ := bx6 BK778
   go_wp2_with (first | (go_at_call 17; (with_reducible refine (laws_pSum.calls k3 _ _ t769 t819 _ ?_ ?_ A90.out).mono ?_); exact Kd.C_o HO_779003; exact (Kd.R_reads' HO_779003.out).2.1; rintro e w' ⟨rfl, ⟨nd, rfl⟩⟩; (try first | exact ⟨rfl, _, World.drewN_drewN _ _ _⟩ | exact ⟨rfl, _, Eq.trans (World.drewN_drewN _ _ _) (congrArg (World.drewN _) (Nat.add_assoc _ _ _))⟩)))
   repeat (go_quiet (first | (go_at_call 17; (with_reducible refine (laws_pSum.calls k3 _ _ t769 t819 _ ?_ ?_ A90.out).mono ?_); exact Kd.C_o HO_779003; exact (Kd.R_reads' HO_779003.out).2.1; rintro e w' ⟨rfl, ⟨nd, rfl⟩⟩; (try first | exact ⟨rfl, _, World.drewN_drewN _ _ _⟩ | exact ⟨rfl, _, Eq.trans (World.drewN_drewN _ _ _) (congrArg (World.drewN _) (Nat.add_assoc _ _ _))⟩))); try go_wp2_with (first | (go_at_call 17; (with_reducible refine (laws_pSum.calls k3 _ _ t769 t819 _ ?_ ?_ A90.out).mono ?_); exact Kd.C_o HO_779003; exact (Kd.R_reads' HO_779003.out).2.1; rintro e w' ⟨rfl, ⟨nd, rfl⟩⟩; (try first | exact ⟨rfl, _, World.drewN_drewN _ _ _⟩ | exact ⟨rfl, _, Eq.trans (World.drewN_drewN _ _ _) (congrArg (World.drewN _) (Nat.add_assoc _ _ _))⟩))))
   refine mt_ hJ_ ⟨_, rfl, ?rel12⟩
   case rel12 => exact ⟨_, (true), sr_, H', ⟨by have := HJ7.out; have := HJ30.out; have := HK3.out; first | omega | exact Nat.le_refl _⟩, ⟨rm_ (h := HO_779003.out)⟩, ⟨rm_ (h := HO_779004.out)⟩, ⟨rm_ (h := HO_779005.out)⟩, ⟨kp_ BK778⟩, ⟨hb_ HB⟩⟩
  repeat intro _
  refine ⟨fun wc hcut => ?_⟩
  obtain ⟨v151, h151_, hcut⟩ := hcut; obtain rfl := Option.some.inj h151_
  clear HC89
  obtain ⟨kq, x151_88, rfl, HA, HJ88, HO_779003, HO_779004, HO_779005, BK778, HB⟩ := hcut
  cases kq with
  | zero => exact absurd HA.out (by simp [laws_FnModels.j3])
  | succ kj88 => ?_
  have H := HA.out
  clear HA
  simp only [laws_FnModels.j3] at H
  by_cases c96 : x151_88 = true
  ·subst c96
   rw [if_pos rfl] at H
   obtain rfl := Option.some.inj H
   go_wp2
   repeat (go_quiet (fail); try go_wp2)
   go_ret
   exact ad_ (hb_ HB)
  replace c96 := Bool.eq_false_iff.mpr c96
  subst c96
  rw [if_neg (show ¬ (false = true) by decide)] at H
  revert H; refine bn_ ?_; rintro ⟨t821, t822⟩ A97 H; try dsimp only at H
  revert H; refine bn_ ?_; rintro ⟨t823, t824⟩ A98 H; try dsimp only at H
  revert H; refine bn_ ?_; rintro ⟨t825, t826⟩ A99 H; try dsimp only at H
  by_cases c100 : t822 = true
  ·subst c100
   rw [if_pos rfl] at H
   by_cases c101 : t821 = t823
   ·rw [if_pos c101] at H
    have c101b0 : (t821 == t823) = true := beq_iff_eq.mpr c101
    have c101b1 : (t821 != t823) = false := bne_eq_false_iff_eq.mpr c101
    clear c101
    by_cases c102 : t826 = true
    ·subst c102
     rw [if_pos rfl] at H
     revert H; refine pd_ fun c103b0 H => ?_
     revert H; refine pd_ fun c104b0 H => ?_
     revert H; refine pd_ fun c105b0 H => ?_
     by_cases c106 : t825 = (wrap64 ((rd t769 t823) * (rd t772 t823)))
     ·rw [if_pos c106] at H
      have c106b0 : (t825 == (wrap64 ((rd t769 t823) * (rd t772 t823)))) = true := beq_iff_eq.mpr c106
      have c106b1 : (t825 != (wrap64 ((rd t769 t823) * (rd t772 t823)))) = false := bne_eq_false_iff_eq.mpr c106
      clear c106
      have H' := am_ H
      clear H
      obtain ⟨hcz107_0, hcz107_1, hcz107_2, hcz107_3, hcz107_4, hcz107_5, hfz107_0, hfz107_1, hfz107_2, hfz107_3, hfz107_4, hfz107_5⟩ := bx6 BK778
      go_wp2_with (first | (go_at_call 18; (with_reducible refine (impl_RichestBlock.calls kj88 t766 t767 t768 _ _ t769 _ _ t772 _ _ t775 t821 true _ ?_ ?_ ?_ ?_ ?_ ?_ A97.out).mono ?_); exact Kd.C_o HO_779003; exact (Kd.R_reads' HO_779003.out).2.1; exact Kd.C_o HO_779004; exact (Kd.R_reads' HO_779004.out).2.1; exact Kd.C_o HO_779005; exact (Kd.R_reads' HO_779005.out).2.1; rintro e w108 ⟨rfl, hb⟩; replace HO_779003 := am_ (Kd.R_below (Kd.R_p HO_779003) hb); replace HO_779004 := am_ (Kd.R_below (Kd.R_p HO_779004) hb); replace HO_779005 := am_ (Kd.R_below (Kd.R_p HO_779005) hb); replace BK778 := am_ (blk_below (kp_ BK778) hb); replace HB := am_ (below_step (hb_ HB) hb); obtain ⟨hcz109_0, hcz109_1, hcz109_2, hcz109_3, hcz109_4, hcz109_5, hfz109_0, hfz109_1, hfz109_2, hfz109_3, hfz109_4, hfz109_5⟩ := bx6 BK778) | (go_at_call 19; (with_reducible refine (spec_RichestBlock.calls kj88 t766 t767 t768 _ _ t769 _ _ t772 _ _ t775 t823 t824 _ ?_ ?_ ?_ ?_ ?_ ?_ A98.out).mono ?_); exact Kd.C_o HO_779003; exact (Kd.R_reads' HO_779003.out).2.1; exact Kd.C_o HO_779004; exact (Kd.R_reads' HO_779004.out).2.1; exact Kd.C_o HO_779005; exact (Kd.R_reads' HO_779005.out).2.1; rintro e w110 ⟨rfl, hb⟩; replace HO_779003 := am_ (Kd.R_below (Kd.R_p HO_779003) hb); replace HO_779004 := am_ (Kd.R_below (Kd.R_p HO_779004) hb); replace HO_779005 := am_ (Kd.R_below (Kd.R_p HO_779005) hb); replace BK778 := am_ (blk_below (kp_ BK778) hb); replace HB := am_ (below_step (hb_ HB) hb); obtain ⟨hcz111_0, hcz111_1, hcz111_2, hcz111_3, hcz111_4, hcz111_5, hfz111_0, hfz111_1, hfz111_2, hfz111_3, hfz111_4, hfz111_5⟩ := bx6 BK778) | (go_at_call 20; (with_reducible refine (impl_MetalOf.calls kj88 t766 t767 t768 _ _ t769 _ _ t772 _ _ t775 t823 t825 true _ ?_ ?_ ?_ ?_ ?_ ?_ A99.out).mono ?_); exact Kd.C_o HO_779003; exact (Kd.R_reads' HO_779003.out).2.1; exact Kd.C_o HO_779004; exact (Kd.R_reads' HO_779004.out).2.1; exact Kd.C_o HO_779005; exact (Kd.R_reads' HO_779005.out).2.1; rintro e w112 ⟨rfl, hb⟩; replace HO_779003 := am_ (Kd.R_below (Kd.R_p HO_779003) hb); replace HO_779004 := am_ (Kd.R_below (Kd.R_p HO_779004) hb); replace HO_779005 := am_ (Kd.R_below (Kd.R_p HO_779005) hb); replace BK778 := am_ (blk_below (kp_ BK778) hb); replace HB := am_ (below_step (hb_ HB) hb); obtain ⟨hcz113_0, hcz113_1, hcz113_2, hcz113_3, hcz113_4, hcz113_5, hfz113_0, hfz113_1, hfz113_2, hfz113_3, hfz113_4, hfz113_5⟩ := bx6 BK778; have p827 : 0 ≤ (t823 : Int) := od_; have q827 : t823 < (t769.length : Int) := od_; obtain ⟨ad827, e827, hx827_0⟩ := Kd.at_int (Kd.R_reads' HO_779003.out).2.2 t823 p827 q827; cases e827; replace p827 := eq_true p827; replace q827 := eq_true q827; have p828 : 0 ≤ (t823 : Int) := od_; have q828 : t823 < (t772.length : Int) := od_; obtain ⟨ad828, e828, hx828_0⟩ := Kd.at_int (Kd.R_reads' HO_779004.out).2.2 t823 p828 q828; cases e828; replace p828 := eq_true p828; replace q828 := eq_true q828))
      repeat (go_quiet (fail); try go_wp2)
      refine mt_ hJ_ ?rel13
      case rel13 => exact ⟨_, H', ⟨by have := HJ7.out; have := HJ30.out; have := HK3.out; have := HJ88.out; first | omega | exact Nat.le_refl _⟩, ⟨hb_ HB⟩⟩
     rw [if_neg c106] at H
     have c106b0 : (t825 == (wrap64 ((rd t769 t823) * (rd t772 t823)))) = false := beq_eq_false_iff_ne.mpr c106
     have c106b1 : (t825 != (wrap64 ((rd t769 t823) * (rd t772 t823)))) = true := bne_iff_ne.mpr c106
     obtain rfl := Option.some.inj H
     obtain ⟨hcz114_0, hcz114_1, hcz114_2, hcz114_3, hcz114_4, hcz114_5, hfz114_0, hfz114_1, hfz114_2, hfz114_3, hfz114_4, hfz114_5⟩ := bx6 BK778
     go_wp2_with (first | (go_at_call 18; (with_reducible refine (impl_RichestBlock.calls kj88 t766 t767 t768 _ _ t769 _ _ t772 _ _ t775 t821 true _ ?_ ?_ ?_ ?_ ?_ ?_ A97.out).mono ?_); exact Kd.C_o HO_779003; exact (Kd.R_reads' HO_779003.out).2.1; exact Kd.C_o HO_779004; exact (Kd.R_reads' HO_779004.out).2.1; exact Kd.C_o HO_779005; exact (Kd.R_reads' HO_779005.out).2.1; rintro e w115 ⟨rfl, hb⟩; replace HO_779003 := am_ (Kd.R_below (Kd.R_p HO_779003) hb); replace HO_779004 := am_ (Kd.R_below (Kd.R_p HO_779004) hb); replace HO_779005 := am_ (Kd.R_below (Kd.R_p HO_779005) hb); replace BK778 := am_ (blk_below (kp_ BK778) hb); replace HB := am_ (below_step (hb_ HB) hb); obtain ⟨hcz116_0, hcz116_1, hcz116_2, hcz116_3, hcz116_4, hcz116_5, hfz116_0, hfz116_1, hfz116_2, hfz116_3, hfz116_4, hfz116_5⟩ := bx6 BK778) | (go_at_call 19; (with_reducible refine (spec_RichestBlock.calls kj88 t766 t767 t768 _ _ t769 _ _ t772 _ _ t775 t823 t824 _ ?_ ?_ ?_ ?_ ?_ ?_ A98.out).mono ?_); exact Kd.C_o HO_779003; exact (Kd.R_reads' HO_779003.out).2.1; exact Kd.C_o HO_779004; exact (Kd.R_reads' HO_779004.out).2.1; exact Kd.C_o HO_779005; exact (Kd.R_reads' HO_779005.out).2.1; rintro e w117 ⟨rfl, hb⟩; replace HO_779003 := am_ (Kd.R_below (Kd.R_p HO_779003) hb); replace HO_779004 := am_ (Kd.R_below (Kd.R_p HO_779004) hb); replace HO_779005 := am_ (Kd.R_below (Kd.R_p HO_779005) hb); replace BK778 := am_ (blk_below (kp_ BK778) hb); replace HB := am_ (below_step (hb_ HB) hb); obtain ⟨hcz118_0, hcz118_1, hcz118_2, hcz118_3, hcz118_4, hcz118_5, hfz118_0, hfz118_1, hfz118_2, hfz118_3, hfz118_4, hfz118_5⟩ := bx6 BK778) | (go_at_call 20; (with_reducible refine (impl_MetalOf.calls kj88 t766 t767 t768 _ _ t769 _ _ t772 _ _ t775 t823 t825 true _ ?_ ?_ ?_ ?_ ?_ ?_ A99.out).mono ?_); exact Kd.C_o HO_779003; exact (Kd.R_reads' HO_779003.out).2.1; exact Kd.C_o HO_779004; exact (Kd.R_reads' HO_779004.out).2.1; exact Kd.C_o HO_779005; exact (Kd.R_reads' HO_779005.out).2.1; rintro e w119 ⟨rfl, hb⟩; replace HO_779003 := am_ (Kd.R_below (Kd.R_p HO_779003) hb); replace HO_779004 := am_ (Kd.R_below (Kd.R_p HO_779004) hb); replace HO_779005 := am_ (Kd.R_below (Kd.R_p HO_779005) hb); replace BK778 := am_ (blk_below (kp_ BK778) hb); replace HB := am_ (below_step (hb_ HB) hb); obtain ⟨hcz120_0, hcz120_1, hcz120_2, hcz120_3, hcz120_4, hcz120_5, hfz120_0, hfz120_1, hfz120_2, hfz120_3, hfz120_4, hfz120_5⟩ := bx6 BK778; have p827 : 0 ≤ (t823 : Int) := od_; have q827 : t823 < (t769.length : Int) := od_; obtain ⟨ad827, e827, hx827_0⟩ := Kd.at_int (Kd.R_reads' HO_779003.out).2.2 t823 p827 q827; cases e827; replace p827 := eq_true p827; replace q827 := eq_true q827; have p828 : 0 ≤ (t823 : Int) := od_; have q828 : t823 < (t772.length : Int) := od_; obtain ⟨ad828, e828, hx828_0⟩ := Kd.at_int (Kd.R_reads' HO_779004.out).2.2 t823 p828 q828; cases e828; replace p828 := eq_true p828; replace q828 := eq_true q828))
     repeat (go_quiet (fail); try go_wp2)
     go_ret
     exact ad_ (hb_ HB)
    replace c102 := Bool.eq_false_iff.mpr c102
    subst c102
    rw [if_neg (show ¬ (false = true) by decide)] at H
    obtain rfl := Option.some.inj H
    obtain ⟨hcz121_0, hcz121_1, hcz121_2, hcz121_3, hcz121_4, hcz121_5, hfz121_0, hfz121_1, hfz121_2, hfz121_3, hfz121_4, hfz121_5⟩ := bx6 BK778
    go_wp2_with (first | (go_at_call 18; (with_reducible refine (impl_RichestBlock.calls kj88 t766 t767 t768 _ _ t769 _ _ t772 _ _ t775 t821 true _ ?_ ?_ ?_ ?_ ?_ ?_ A97.out).mono ?_); exact Kd.C_o HO_779003; exact (Kd.R_reads' HO_779003.out).2.1; exact Kd.C_o HO_779004; exact (Kd.R_reads' HO_779004.out).2.1; exact Kd.C_o HO_779005; exact (Kd.R_reads' HO_779005.out).2.1; rintro e w122 ⟨rfl, hb⟩; replace HO_779003 := am_ (Kd.R_below (Kd.R_p HO_779003) hb); replace HO_779004 := am_ (Kd.R_below (Kd.R_p HO_779004) hb); replace HO_779005 := am_ (Kd.R_below (Kd.R_p HO_779005) hb); replace BK778 := am_ (blk_below (kp_ BK778) hb); replace HB := am_ (below_step (hb_ HB) hb); obtain ⟨hcz123_0, hcz123_1, hcz123_2, hcz123_3, hcz123_4, hcz123_5, hfz123_0, hfz123_1, hfz123_2, hfz123_3, hfz123_4, hfz123_5⟩ := bx6 BK778) | (go_at_call 19; (with_reducible refine (spec_RichestBlock.calls kj88 t766 t767 t768 _ _ t769 _ _ t772 _ _ t775 t823 t824 _ ?_ ?_ ?_ ?_ ?_ ?_ A98.out).mono ?_); exact Kd.C_o HO_779003; exact (Kd.R_reads' HO_779003.out).2.1; exact Kd.C_o HO_779004; exact (Kd.R_reads' HO_779004.out).2.1; exact Kd.C_o HO_779005; exact (Kd.R_reads' HO_779005.out).2.1; rintro e w124 ⟨rfl, hb⟩; replace HO_779003 := am_ (Kd.R_below (Kd.R_p HO_779003) hb); replace HO_779004 := am_ (Kd.R_below (Kd.R_p HO_779004) hb); replace HO_779005 := am_ (Kd.R_below (Kd.R_p HO_779005) hb); replace BK778 := am_ (blk_below (kp_ BK778) hb); replace HB := am_ (below_step (hb_ HB) hb); obtain ⟨hcz125_0, hcz125_1, hcz125_2, hcz125_3, hcz125_4, hcz125_5, hfz125_0, hfz125_1, hfz125_2, hfz125_3, hfz125_4, hfz125_5⟩ := bx6 BK778) | (go_at_call 20; (with_reducible refine (impl_MetalOf.calls kj88 t766 t767 t768 _ _ t769 _ _ t772 _ _ t775 t823 t825 false _ ?_ ?_ ?_ ?_ ?_ ?_ A99.out).mono ?_); exact Kd.C_o HO_779003; exact (Kd.R_reads' HO_779003.out).2.1; exact Kd.C_o HO_779004; exact (Kd.R_reads' HO_779004.out).2.1; exact Kd.C_o HO_779005; exact (Kd.R_reads' HO_779005.out).2.1; rintro e w126 ⟨rfl, hb⟩; replace HO_779003 := am_ (Kd.R_below (Kd.R_p HO_779003) hb); replace HO_779004 := am_ (Kd.R_below (Kd.R_p HO_779004) hb); replace HO_779005 := am_ (Kd.R_below (Kd.R_p HO_779005) hb); replace BK778 := am_ (blk_below (kp_ BK778) hb); replace HB := am_ (below_step (hb_ HB) hb)))
    repeat (go_quiet (fail); try go_wp2)
    go_ret
    exact ad_ (hb_ HB)
   rw [if_neg c101] at H
   have c101b0 : (t821 == t823) = false := beq_eq_false_iff_ne.mpr c101
   have c101b1 : (t821 != t823) = true := bne_iff_ne.mpr c101
   obtain rfl := Option.some.inj H
   obtain ⟨hcz127_0, hcz127_1, hcz127_2, hcz127_3, hcz127_4, hcz127_5, hfz127_0, hfz127_1, hfz127_2, hfz127_3, hfz127_4, hfz127_5⟩ := bx6 BK778
   go_wp2_with (first | (go_at_call 18; (with_reducible refine (impl_RichestBlock.calls kj88 t766 t767 t768 _ _ t769 _ _ t772 _ _ t775 t821 true _ ?_ ?_ ?_ ?_ ?_ ?_ A97.out).mono ?_); exact Kd.C_o HO_779003; exact (Kd.R_reads' HO_779003.out).2.1; exact Kd.C_o HO_779004; exact (Kd.R_reads' HO_779004.out).2.1; exact Kd.C_o HO_779005; exact (Kd.R_reads' HO_779005.out).2.1; rintro e w128 ⟨rfl, hb⟩; replace HO_779003 := am_ (Kd.R_below (Kd.R_p HO_779003) hb); replace HO_779004 := am_ (Kd.R_below (Kd.R_p HO_779004) hb); replace HO_779005 := am_ (Kd.R_below (Kd.R_p HO_779005) hb); replace BK778 := am_ (blk_below (kp_ BK778) hb); replace HB := am_ (below_step (hb_ HB) hb); obtain ⟨hcz129_0, hcz129_1, hcz129_2, hcz129_3, hcz129_4, hcz129_5, hfz129_0, hfz129_1, hfz129_2, hfz129_3, hfz129_4, hfz129_5⟩ := bx6 BK778) | (go_at_call 19; (with_reducible refine (spec_RichestBlock.calls kj88 t766 t767 t768 _ _ t769 _ _ t772 _ _ t775 t823 t824 _ ?_ ?_ ?_ ?_ ?_ ?_ A98.out).mono ?_); exact Kd.C_o HO_779003; exact (Kd.R_reads' HO_779003.out).2.1; exact Kd.C_o HO_779004; exact (Kd.R_reads' HO_779004.out).2.1; exact Kd.C_o HO_779005; exact (Kd.R_reads' HO_779005.out).2.1; rintro e w130 ⟨rfl, hb⟩; replace HO_779003 := am_ (Kd.R_below (Kd.R_p HO_779003) hb); replace HO_779004 := am_ (Kd.R_below (Kd.R_p HO_779004) hb); replace HO_779005 := am_ (Kd.R_below (Kd.R_p HO_779005) hb); replace BK778 := am_ (blk_below (kp_ BK778) hb); replace HB := am_ (below_step (hb_ HB) hb); obtain ⟨hcz131_0, hcz131_1, hcz131_2, hcz131_3, hcz131_4, hcz131_5, hfz131_0, hfz131_1, hfz131_2, hfz131_3, hfz131_4, hfz131_5⟩ := bx6 BK778) | (go_at_call 20; (with_reducible refine (impl_MetalOf.calls kj88 t766 t767 t768 _ _ t769 _ _ t772 _ _ t775 t823 t825 t826 _ ?_ ?_ ?_ ?_ ?_ ?_ A99.out).mono ?_); exact Kd.C_o HO_779003; exact (Kd.R_reads' HO_779003.out).2.1; exact Kd.C_o HO_779004; exact (Kd.R_reads' HO_779004.out).2.1; exact Kd.C_o HO_779005; exact (Kd.R_reads' HO_779005.out).2.1; rintro e w132 ⟨rfl, hb⟩; replace HO_779003 := am_ (Kd.R_below (Kd.R_p HO_779003) hb); replace HO_779004 := am_ (Kd.R_below (Kd.R_p HO_779004) hb); replace HO_779005 := am_ (Kd.R_below (Kd.R_p HO_779005) hb); replace BK778 := am_ (blk_below (kp_ BK778) hb); replace HB := am_ (below_step (hb_ HB) hb)))
   repeat (go_quiet (fail); try go_wp2)
   go_ret
   exact ad_ (hb_ HB)
  replace c100 := Bool.eq_false_iff.mpr c100
  subst c100
  rw [if_neg (show ¬ (false = true) by decide)] at H
  obtain rfl := Option.some.inj H
  obtain ⟨hcz133_0, hcz133_1, hcz133_2, hcz133_3, hcz133_4, hcz133_5, hfz133_0, hfz133_1, hfz133_2, hfz133_3, hfz133_4, hfz133_5⟩ := bx6 BK778
  go_wp2_with (first | (go_at_call 18; (with_reducible refine (impl_RichestBlock.calls kj88 t766 t767 t768 _ _ t769 _ _ t772 _ _ t775 t821 false _ ?_ ?_ ?_ ?_ ?_ ?_ A97.out).mono ?_); exact Kd.C_o HO_779003; exact (Kd.R_reads' HO_779003.out).2.1; exact Kd.C_o HO_779004; exact (Kd.R_reads' HO_779004.out).2.1; exact Kd.C_o HO_779005; exact (Kd.R_reads' HO_779005.out).2.1; rintro e w134 ⟨rfl, hb⟩; replace HO_779003 := am_ (Kd.R_below (Kd.R_p HO_779003) hb); replace HO_779004 := am_ (Kd.R_below (Kd.R_p HO_779004) hb); replace HO_779005 := am_ (Kd.R_below (Kd.R_p HO_779005) hb); replace BK778 := am_ (blk_below (kp_ BK778) hb); replace HB := am_ (below_step (hb_ HB) hb); obtain ⟨hcz135_0, hcz135_1, hcz135_2, hcz135_3, hcz135_4, hcz135_5, hfz135_0, hfz135_1, hfz135_2, hfz135_3, hfz135_4, hfz135_5⟩ := bx6 BK778) | (go_at_call 19; (with_reducible refine (spec_RichestBlock.calls kj88 t766 t767 t768 _ _ t769 _ _ t772 _ _ t775 t823 t824 _ ?_ ?_ ?_ ?_ ?_ ?_ A98.out).mono ?_); exact Kd.C_o HO_779003; exact (Kd.R_reads' HO_779003.out).2.1; exact Kd.C_o HO_779004; exact (Kd.R_reads' HO_779004.out).2.1; exact Kd.C_o HO_779005; exact (Kd.R_reads' HO_779005.out).2.1; rintro e w136 ⟨rfl, hb⟩; replace HO_779003 := am_ (Kd.R_below (Kd.R_p HO_779003) hb); replace HO_779004 := am_ (Kd.R_below (Kd.R_p HO_779004) hb); replace HO_779005 := am_ (Kd.R_below (Kd.R_p HO_779005) hb); replace BK778 := am_ (blk_below (kp_ BK778) hb); replace HB := am_ (below_step (hb_ HB) hb); obtain ⟨hcz137_0, hcz137_1, hcz137_2, hcz137_3, hcz137_4, hcz137_5, hfz137_0, hfz137_1, hfz137_2, hfz137_3, hfz137_4, hfz137_5⟩ := bx6 BK778) | (go_at_call 20; (with_reducible refine (impl_MetalOf.calls kj88 t766 t767 t768 _ _ t769 _ _ t772 _ _ t775 t823 t825 t826 _ ?_ ?_ ?_ ?_ ?_ ?_ A99.out).mono ?_); exact Kd.C_o HO_779003; exact (Kd.R_reads' HO_779003.out).2.1; exact Kd.C_o HO_779004; exact (Kd.R_reads' HO_779004.out).2.1; exact Kd.C_o HO_779005; exact (Kd.R_reads' HO_779005.out).2.1; rintro e w138 ⟨rfl, hb⟩; replace HO_779003 := am_ (Kd.R_below (Kd.R_p HO_779003) hb); replace HO_779004 := am_ (Kd.R_below (Kd.R_p HO_779004) hb); replace HO_779005 := am_ (Kd.R_below (Kd.R_p HO_779005) hb); replace BK778 := am_ (blk_below (kp_ BK778) hb); replace HB := am_ (below_step (hb_ HB) hb)))
  repeat (go_quiet (fail); try go_wp2)
  go_ret
  exact ad_ (hb_ HB)
 repeat intro _
 refine ⟨fun wc hcut => ?_⟩
 clear HC24
 obtain ⟨kq, HA, HJ23, HB⟩ := hcut
 cases kq with
 | zero => exact absurd HA.out (by simp [laws_FnModels.j4])
 | succ kj23 => ?_
 have H := HA.out
 clear HA
 simp only [laws_FnModels.j4] at H
 revert H; refine bn_ ?_; rintro ⟨t829, t830, t831, t832, t835, t838, t841⟩ A139 H; try dsimp only at H
 revert H; refine bn_ ?_; rintro ⟨t845, t846, t847, t848, t851, t854, t857⟩ A140 H; try dsimp only at H
 revert H; refine bn_ ?_; rintro ⟨t859, t860, t861, t862, t865, t868, t871⟩ A141 H; try dsimp only at H
 revert H; refine bn_ ?_; rintro ⟨t873, t874, t875⟩ A142 H; try dsimp only at H
 revert H; refine bn_ ?_; rintro ⟨t876, t877, t878⟩ A143 H; try dsimp only at H
 have HC144 := am_ H
 clear H
 go_upto_region 34 with (first | (go_at_call 21; (with_reducible refine (spec_DrawEmptyBlocks.calls kj23 _ _ l1 t829 t830 t831 t832 t835 t838 t841 _ ?_ ?_ A139.out).mono ?_); exact Kd.C_w HR1 HB; exact HC1.out; rintro e w145 ⟨v833, v836, v839, v842, rfl, ho0, ho1, ho2, ho3, hb⟩; have HO834 := am_ (Kd.R_lower ho0 (below_size (hb_ HB))); have HO837 := am_ (Kd.R_lower ho1 (below_size (hb_ HB))); have HO840 := am_ (Kd.R_lower ho2 (below_size (hb_ HB))); have HO843 := am_ (Kd.R_lower ho3 (below_size (hb_ HB))); replace HB := am_ (below_step (hb_ HB) hb)) | ((with_reducible refine gate_dst (N := 29) rfl ?_); refine bv_ 29 (cs := #[.int .i64 0, .int .i64 0, .int .i64 0, .slice none 0 0, .slice none 0 0, .slice none 0 0]) (t := 28) ?_; intro gb844 hg w146 hbox hb; have BK844 := am_ (hbox); have GW844 := gs_ hg HB; have GE844 := gs_ hg HB; replace HO834 := Kd.R_b HO834 hb; replace HO837 := Kd.R_b HO837 hb; replace HO840 := Kd.R_b HO840 hb; replace HO843 := Kd.R_b HO843 hb; replace HB := hbs_ HB hb; clear hb hbox hg; obtain ⟨hcz147_0, hcz147_1, hcz147_2, hcz147_3, hcz147_4, hcz147_5, hfz147_0, hfz147_1, hfz147_2, hfz147_3, hfz147_4, hfz147_5⟩ := bx6 BK844; obtain ⟨Ao148, co148, eo148⟩ := Kd.R_slice HO834.out; subst eo148; obtain ⟨Ao149, co149, eo149⟩ := Kd.R_slice HO837.out; subst eo149; obtain ⟨Ao150, co150, eo150⟩ := Kd.R_slice HO840.out; subst eo150; obtain ⟨Ao151, co151, eo151⟩ := Kd.R_slice HO843.out; subst eo151) | (go_at_call 22; (with_reducible refine (impl_EmptyBlocks.calls kj23 t829 t830 t831 _ _ t832 _ _ t835 _ _ t838 _ _ t841 t845 t846 t847 t848 t851 t854 t857 _ ?_ ?_ ?_ ?_ ?_ ?_ ?_ ?_ A140.out).mono ?_); exact (Kd.R_reads' (Kd.R_s HO834 BK844)).2.2; exact (Kd.R_reads' HO834.out).2.1; exact (Kd.R_reads' (Kd.R_s HO837 BK844)).2.2; exact (Kd.R_reads' HO837.out).2.1; exact (Kd.R_reads' (Kd.R_s HO840 BK844)).2.2; exact (Kd.R_reads' HO840.out).2.1; exact (Kd.R_reads' (Kd.R_s HO843 BK844)).2.2; exact (Kd.R_reads' HO843.out).2.1; rintro e w152 ⟨v849, v852, v855, rfl, ho0, ho1, ho2, hb⟩; have n0_ := am_ (Kd.R_mono (Kd.R_told (Kd.R_told (Kd.R_told (Kd.R_old (Kd.R_s HO834 BK844) hb) (Kd.R_base ho0)) (Kd.R_base ho1)) (Kd.R_base ho2)) (fun _ h_ => h_.1)); have n1_ := am_ (Kd.R_mono (Kd.R_told (Kd.R_told (Kd.R_told (Kd.R_old (Kd.R_s HO837 BK844) hb) (Kd.R_base ho0)) (Kd.R_base ho1)) (Kd.R_base ho2)) (fun _ h_ => h_.1)); have n2_ := am_ (Kd.R_mono (Kd.R_told (Kd.R_told (Kd.R_told (Kd.R_old (Kd.R_s HO840 BK844) hb) (Kd.R_base ho0)) (Kd.R_base ho1)) (Kd.R_base ho2)) (fun _ h_ => h_.1)); have n3_ := am_ (Kd.R_mono (Kd.R_told (Kd.R_told (Kd.R_told (Kd.R_old (Kd.R_s HO843 BK844) hb) (Kd.R_base ho0)) (Kd.R_base ho1)) (Kd.R_base ho2)) (fun _ h_ => h_.1)); have n4_ := am_ (Kd.R_lower (Kd.R_ns (Kd.R_ns (Kd.R_ns (Kd.R_ns ho0 HO834 BK844) HO837 BK844) HO840 BK844) HO843 BK844) (below_size (hb_ HB))); have n5_ := am_ (Kd.R_lower (Kd.R_ns (Kd.R_ns (Kd.R_ns (Kd.R_ns ho1 HO834 BK844) HO837 BK844) HO840 BK844) HO843 BK844) (below_size (hb_ HB))); have n6_ := am_ (Kd.R_lower (Kd.R_ns (Kd.R_ns (Kd.R_ns (Kd.R_ns ho2 HO834 BK844) HO837 BK844) HO840 BK844) HO843 BK844) (below_size (hb_ HB))); have n7_ := am_ (blk_below (g := gb844) (o := .cells #[.int .i64 t829, .int .i64 t830, .int .i64 t831, .slice Ao148 t832.length co148, .slice Ao149 t835.length co149, .slice Ao150 t838.length co150] 28 (0, 0)) (kpq_ (kputs BK844 [(0, _), (1, _), (2, _), (3, _), (4, _), (5, _)])) hb); have n8_ := am_ (below_step (hb_ HB) hb); clear HO834; clear HO837; clear HO840; clear HO843; clear BK844; clear HB; have HO834 := n0_; have HO837 := n1_; have HO840 := n2_; have HO843 := n3_; have HO850 := n4_; have HO853 := n5_; have HO856 := n6_; have BK844 := n7_; have HB := n8_; clear n0_ n1_ n2_ n3_ n4_ n5_ n6_ n7_ n8_) | ((with_reducible refine gate_dst (N := 31) rfl ?_); refine bv_ 31 (cs := #[.int .i64 0, .int .i64 0, .int .i64 0, .slice none 0 0, .slice none 0 0, .slice none 0 0]) (t := 28) ?_; intro gb858 hg w153 hbox hb; have BK858 := am_ (hbox); have GW858 := gs_ hg HB; have GE858 := gs_ hg HB; have NB844_858 := nl_ hg BK844; have NB858_844 := ng_ hg BK844; replace HO834 := Kd.R_b HO834 hb; replace HO837 := Kd.R_b HO837 hb; replace HO840 := Kd.R_b HO840 hb; replace HO843 := Kd.R_b HO843 hb; replace HO850 := Kd.R_b HO850 hb; replace HO853 := Kd.R_b HO853 hb; replace HO856 := Kd.R_b HO856 hb; replace BK844 := kb_ BK844 hb; replace HB := hbs_ HB hb; clear hb hbox hg; have := NB858_844.out; have := NB844_858.out; obtain ⟨hcz155_0, hcz155_1, hcz155_2, hcz155_3, hcz155_4, hcz155_5, hfz155_0, hfz155_1, hfz155_2, hfz155_3, hfz155_4, hfz155_5⟩ := bx6 BK858; obtain ⟨Ao156, co156, eo156⟩ := Kd.R_slice HO850.out; subst eo156; obtain ⟨Ao157, co157, eo157⟩ := Kd.R_slice HO853.out; subst eo157; obtain ⟨Ao158, co158, eo158⟩ := Kd.R_slice HO856.out; subst eo158; obtain ⟨hcz159_0, hcz159_1, hcz159_2, hcz159_3, hcz159_4, hcz159_5, hfz159_0, hfz159_1, hfz159_2, hfz159_3, hfz159_4, hfz159_5⟩ := bx6 BK844) | (go_at_call 23; (with_reducible refine (spec_EmptyBlocks.calls kj23 t829 t830 t831 _ _ t832 _ _ t835 _ _ t838 _ _ t841 t859 t860 t861 t862 t865 t868 t871 _ ?_ ?_ ?_ ?_ ?_ ?_ ?_ ?_ A141.out).mono ?_); exact (Kd.R_reads' (Kd.R_s HO834 BK858)).2.2; exact (Kd.R_reads' HO834.out).2.1; exact (Kd.R_reads' (Kd.R_s HO837 BK858)).2.2; exact (Kd.R_reads' HO837.out).2.1; exact (Kd.R_reads' (Kd.R_s HO840 BK858)).2.2; exact (Kd.R_reads' HO840.out).2.1; exact (Kd.R_reads' (Kd.R_s HO843 BK858)).2.2; exact (Kd.R_reads' HO843.out).2.1; rintro e w160 ⟨v863, v866, v869, rfl, ho0, ho1, ho2, hb⟩; have n0_ := am_ (Kd.R_mono (Kd.R_told (Kd.R_told (Kd.R_told (Kd.R_old (Kd.R_s HO834 BK858) hb) (Kd.R_base ho0)) (Kd.R_base ho1)) (Kd.R_base ho2)) (fun _ h_ => h_.1)); have n1_ := am_ (Kd.R_mono (Kd.R_told (Kd.R_told (Kd.R_told (Kd.R_old (Kd.R_s HO837 BK858) hb) (Kd.R_base ho0)) (Kd.R_base ho1)) (Kd.R_base ho2)) (fun _ h_ => h_.1)); have n2_ := am_ (Kd.R_mono (Kd.R_told (Kd.R_told (Kd.R_told (Kd.R_old (Kd.R_s HO840 BK858) hb) (Kd.R_base ho0)) (Kd.R_base ho1)) (Kd.R_base ho2)) (fun _ h_ => h_.1)); have n3_ := am_ (Kd.R_mono (Kd.R_told (Kd.R_told (Kd.R_told (Kd.R_old (Kd.R_s HO843 BK858) hb) (Kd.R_base ho0)) (Kd.R_base ho1)) (Kd.R_base ho2)) (fun _ h_ => h_.1)); have n4_ := am_ (Kd.R_mono (Kd.R_told (Kd.R_told (Kd.R_told (Kd.R_old (Kd.R_s HO850 BK858) hb) (Kd.R_base ho0)) (Kd.R_base ho1)) (Kd.R_base ho2)) (fun _ h_ => h_.1)); have n5_ := am_ (Kd.R_mono (Kd.R_told (Kd.R_told (Kd.R_told (Kd.R_old (Kd.R_s HO853 BK858) hb) (Kd.R_base ho0)) (Kd.R_base ho1)) (Kd.R_base ho2)) (fun _ h_ => h_.1)); have n6_ := am_ (Kd.R_mono (Kd.R_told (Kd.R_told (Kd.R_told (Kd.R_old (Kd.R_s HO856 BK858) hb) (Kd.R_base ho0)) (Kd.R_base ho1)) (Kd.R_base ho2)) (fun _ h_ => h_.1)); have n7_ := am_ (Kd.R_lower (Kd.R_ns (Kd.R_ns (Kd.R_ns (Kd.R_ns (Kd.R_ns (Kd.R_ns (Kd.R_ns ho0 HO834 BK858) HO837 BK858) HO840 BK858) HO843 BK858) HO850 BK858) HO853 BK858) HO856 BK858) (below_size (hb_ HB))); have n8_ := am_ (Kd.R_lower (Kd.R_ns (Kd.R_ns (Kd.R_ns (Kd.R_ns (Kd.R_ns (Kd.R_ns (Kd.R_ns ho1 HO834 BK858) HO837 BK858) HO840 BK858) HO843 BK858) HO850 BK858) HO853 BK858) HO856 BK858) (below_size (hb_ HB))); have n9_ := am_ (Kd.R_lower (Kd.R_ns (Kd.R_ns (Kd.R_ns (Kd.R_ns (Kd.R_ns (Kd.R_ns (Kd.R_ns ho2 HO834 BK858) HO837 BK858) HO840 BK858) HO843 BK858) HO850 BK858) HO853 BK858) HO856 BK858) (below_size (hb_ HB))); have n10_ := am_ (blk_below (kf_ BK844 NB844_858) hb); have n11_ := am_ (blk_below (g := gb858) (o := .cells #[.int .i64 t845, .int .i64 t846, .int .i64 t847, .slice Ao156 t848.length co156, .slice Ao157 t851.length co157, .slice Ao158 t854.length co158] 28 (0, 0)) (kpq_ (kputs BK858 [(0, _), (1, _), (2, _), (3, _), (4, _), (5, _)])) hb); have n12_ := am_ (below_step (hb_ HB) hb); clear HO834; clear HO837; clear HO840; clear HO843; clear HO850; clear HO853; clear HO856; clear BK844; clear BK858; clear HB; have HO834 := n0_; have HO837 := n1_; have HO840 := n2_; have HO843 := n3_; have HO850 := n4_; have HO853 := n5_; have HO856 := n6_; have HO864 := n7_; have HO867 := n8_; have HO870 := n9_; have BK844 := n10_; have BK858 := n11_; have HB := n12_; clear n0_ n1_ n2_ n3_ n4_ n5_ n6_ n7_ n8_ n9_ n10_ n11_ n12_) | ((with_reducible refine gate_dst (N := 33) rfl ?_); refine bv_ 33 (cs := #[.int .i64 0, .int .i64 0, .int .i64 0, .slice none 0 0, .slice none 0 0, .slice none 0 0]) (t := 28) ?_; intro gb872 hg w161 hbox hb; have BK872 := am_ (hbox); have GW872 := gs_ hg HB; have GE872 := gs_ hg HB; have NB844_872 := nl_ hg BK844; have NB872_844 := ng_ hg BK844; have NB858_872 := nl_ hg BK858; have NB872_858 := ng_ hg BK858; replace HO834 := Kd.R_b HO834 hb; replace HO837 := Kd.R_b HO837 hb; replace HO840 := Kd.R_b HO840 hb; replace HO843 := Kd.R_b HO843 hb; replace HO850 := Kd.R_b HO850 hb; replace HO853 := Kd.R_b HO853 hb; replace HO856 := Kd.R_b HO856 hb; replace HO864 := Kd.R_b HO864 hb; replace HO867 := Kd.R_b HO867 hb; replace HO870 := Kd.R_b HO870 hb; replace BK844 := kb_ BK844 hb; replace BK858 := kb_ BK858 hb; replace HB := hbs_ HB hb; clear hb hbox hg; have := NB872_844.out; have := NB844_872.out; have := NB872_858.out; have := NB858_872.out; obtain ⟨hcz164_0, hcz164_1, hcz164_2, hcz164_3, hcz164_4, hcz164_5, hfz164_0, hfz164_1, hfz164_2, hfz164_3, hfz164_4, hfz164_5⟩ := bx6 BK872; obtain ⟨Ao165, co165, eo165⟩ := Kd.R_slice HO864.out; subst eo165; obtain ⟨Ao166, co166, eo166⟩ := Kd.R_slice HO867.out; subst eo166; obtain ⟨Ao167, co167, eo167⟩ := Kd.R_slice HO870.out; subst eo167; obtain ⟨hcz168_0, hcz168_1, hcz168_2, hcz168_3, hcz168_4, hcz168_5, hfz168_0, hfz168_1, hfz168_2, hfz168_3, hfz168_4, hfz168_5⟩ := bx6 BK844) | (go_at_call 24; (with_reducible refine (impl_SumsOf.calls kj23 t829 t830 t831 _ _ t832 _ _ t835 _ _ t838 _ _ t841 t873 t874 t875 _ ?_ ?_ ?_ ?_ ?_ ?_ ?_ ?_ A142.out).mono ?_); exact (Kd.R_reads' (Kd.R_s HO834 BK872)).2.2; exact (Kd.R_reads' HO834.out).2.1; exact (Kd.R_reads' (Kd.R_s HO837 BK872)).2.2; exact (Kd.R_reads' HO837.out).2.1; exact (Kd.R_reads' (Kd.R_s HO840 BK872)).2.2; exact (Kd.R_reads' HO840.out).2.1; exact (Kd.R_reads' (Kd.R_s HO843 BK872)).2.2; exact (Kd.R_reads' HO843.out).2.1; rintro e w169 ⟨rfl, hb⟩; replace HO834 := am_ (Kd.R_below (Kd.R_s HO834 BK872) hb); replace HO837 := am_ (Kd.R_below (Kd.R_s HO837 BK872) hb); replace HO840 := am_ (Kd.R_below (Kd.R_s HO840 BK872) hb); replace HO843 := am_ (Kd.R_below (Kd.R_s HO843 BK872) hb); replace HO850 := am_ (Kd.R_below (Kd.R_s HO850 BK872) hb); replace HO853 := am_ (Kd.R_below (Kd.R_s HO853 BK872) hb); replace HO856 := am_ (Kd.R_below (Kd.R_s HO856 BK872) hb); replace HO864 := am_ (Kd.R_below (Kd.R_s HO864 BK872) hb); replace HO867 := am_ (Kd.R_below (Kd.R_s HO867 BK872) hb); replace HO870 := am_ (Kd.R_below (Kd.R_s HO870 BK872) hb); replace BK844 := am_ (blk_below (kf_ BK844 NB844_872) hb); replace BK858 := am_ (blk_below (kf_ BK858 NB858_872) hb); replace BK872 := am_ (blk_below (g := gb872) (o := .cells #[.int .i64 t859, .int .i64 t860, .int .i64 t861, .slice Ao165 t862.length co165, .slice Ao166 t865.length co166, .slice Ao167 t868.length co167] 28 (0, 0)) (kpq_ (kputs BK872 [(0, _), (1, _), (2, _), (3, _), (4, _), (5, _)])) hb); replace HB := am_ (below_step (hb_ HB) hb); obtain ⟨hcz170_0, hcz170_1, hcz170_2, hcz170_3, hcz170_4, hcz170_5, hfz170_0, hfz170_1, hfz170_2, hfz170_3, hfz170_4, hfz170_5⟩ := bx6 BK844) | (go_at_call 25; (with_reducible refine (spec_SumsOf.calls kj23 t829 t830 t831 _ _ t832 _ _ t835 _ _ t838 _ _ t841 t876 t877 t878 _ ?_ ?_ ?_ ?_ ?_ ?_ ?_ ?_ A143.out).mono ?_); exact Kd.C_o HO834; exact (Kd.R_reads' HO834.out).2.1; exact Kd.C_o HO837; exact (Kd.R_reads' HO837.out).2.1; exact Kd.C_o HO840; exact (Kd.R_reads' HO840.out).2.1; exact Kd.C_o HO843; exact (Kd.R_reads' HO843.out).2.1; rintro e w171 ⟨rfl, hb⟩; replace HO834 := am_ (Kd.R_below (Kd.R_p HO834) hb); replace HO837 := am_ (Kd.R_below (Kd.R_p HO837) hb); replace HO840 := am_ (Kd.R_below (Kd.R_p HO840) hb); replace HO843 := am_ (Kd.R_below (Kd.R_p HO843) hb); replace HO850 := am_ (Kd.R_below (Kd.R_p HO850) hb); replace HO853 := am_ (Kd.R_below (Kd.R_p HO853) hb); replace HO856 := am_ (Kd.R_below (Kd.R_p HO856) hb); replace HO864 := am_ (Kd.R_below (Kd.R_p HO864) hb); replace HO867 := am_ (Kd.R_below (Kd.R_p HO867) hb); replace HO870 := am_ (Kd.R_below (Kd.R_p HO870) hb); replace BK844 := am_ (blk_below (kp_ BK844) hb); replace BK858 := am_ (blk_below (kp_ BK858) hb); replace BK872 := am_ (blk_below (kp_ BK872) hb); replace HB := am_ (below_step (hb_ HB) hb)))
 repeat (go_quiet (fail); go_upto_region 34 with (fail))
 (try simp only [Act.put, List.setIfInBounds_toArray, List.set_cons_zero, List.set_cons_succ])
 refine wp_cutF [1,1,1,1,1,1,1,1,1,1,1,1,1,1,1,1,1,1,1,1,1,1,1,1,1,1,1,1,1,1,1,1,1,1,1,1,1,1,1,1,1,1,1,1,1,1] (fun us wc => ∃ v253 : Value, us[253]? = some v253 ∧ ∃ (kq : Nat) (x253_143 : Bool), v253 = .bool x253_143 ∧ Aside0 (laws_FnModels.j5 kq l1 t857 t876 x253_143 t829 t830 t831 t832 t835 t838 t859 t860 t861 t862 t865 t868 = some r) ∧ Aside0 (kq ≤ kj23) ∧ Aside0 (Kd.R (Kd.int .i64) 3 wc w.heap.size (fun k_ => some k_ ≠ ((.slice Ao149 t835.length co149) : Value).ownBlock ∧ some k_ ≠ ((.slice Ao150 t838.length co150) : Value).ownBlock ∧ some k_ ≠ ((.slice Ao165 t862.length co165) : Value).ownBlock ∧ some k_ ≠ ((.slice Ao166 t865.length co166) : Value).ownBlock ∧ some k_ ≠ ((.slice Ao167 t868.length co167) : Value).ownBlock) (.slice Ao148 t832.length co148) t832) ∧ Aside0 (Kd.R (Kd.int .i64) 3 wc w.heap.size (fun k_ => some k_ ≠ ((.slice Ao148 t832.length co148) : Value).ownBlock ∧ some k_ ≠ ((.slice Ao150 t838.length co150) : Value).ownBlock ∧ some k_ ≠ ((.slice Ao165 t862.length co165) : Value).ownBlock ∧ some k_ ≠ ((.slice Ao166 t865.length co166) : Value).ownBlock ∧ some k_ ≠ ((.slice Ao167 t868.length co167) : Value).ownBlock) (.slice Ao149 t835.length co149) t835) ∧ Aside0 (Kd.R (Kd.int .i64) 3 wc w.heap.size (fun k_ => some k_ ≠ ((.slice Ao148 t832.length co148) : Value).ownBlock ∧ some k_ ≠ ((.slice Ao149 t835.length co149) : Value).ownBlock ∧ some k_ ≠ ((.slice Ao165 t862.length co165) : Value).ownBlock ∧ some k_ ≠ ((.slice Ao166 t865.length co166) : Value).ownBlock ∧ some k_ ≠ ((.slice Ao167 t868.length co167) : Value).ownBlock) (.slice Ao150 t838.length co150) t838) ∧ Aside0 (Kd.R (Kd.int .i64) 3 wc w.heap.size (fun k_ => some k_ ≠ ((.slice Ao148 t832.length co148) : Value).ownBlock ∧ some k_ ≠ ((.slice Ao149 t835.length co149) : Value).ownBlock ∧ some k_ ≠ ((.slice Ao150 t838.length co150) : Value).ownBlock ∧ some k_ ≠ ((.slice Ao166 t865.length co166) : Value).ownBlock ∧ some k_ ≠ ((.slice Ao167 t868.length co167) : Value).ownBlock) (.slice Ao165 t862.length co165) t862) ∧ Aside0 (Kd.R (Kd.int .i64) 3 wc w.heap.size (fun k_ => some k_ ≠ ((.slice Ao148 t832.length co148) : Value).ownBlock ∧ some k_ ≠ ((.slice Ao149 t835.length co149) : Value).ownBlock ∧ some k_ ≠ ((.slice Ao150 t838.length co150) : Value).ownBlock ∧ some k_ ≠ ((.slice Ao165 t862.length co165) : Value).ownBlock ∧ some k_ ≠ ((.slice Ao167 t868.length co167) : Value).ownBlock) (.slice Ao166 t865.length co166) t865) ∧ Aside0 (Kd.R (Kd.int .i64) 3 wc w.heap.size (fun k_ => some k_ ≠ ((.slice Ao148 t832.length co148) : Value).ownBlock ∧ some k_ ≠ ((.slice Ao149 t835.length co149) : Value).ownBlock ∧ some k_ ≠ ((.slice Ao150 t838.length co150) : Value).ownBlock ∧ some k_ ≠ ((.slice Ao165 t862.length co165) : Value).ownBlock ∧ some k_ ≠ ((.slice Ao166 t865.length co166) : Value).ownBlock) (.slice Ao167 t868.length co167) t868) ∧ Aside0 (wc.heap[gb844]? = some (.cells #[.int .i64 t829, .int .i64 t830, .int .i64 t831, (.slice Ao148 t832.length co148), (.slice Ao149 t835.length co149), (.slice Ao150 t838.length co150)] 28 (0, 0))) ∧ Aside0 (wc.heap[gb872]? = some (.cells #[.int .i64 t859, .int .i64 t860, .int .i64 t861, (.slice Ao165 t862.length co165), (.slice Ao166 t865.length co166), (.slice Ao167 t868.length co167)] 28 (0, 0))) ∧ Aside0 (Below w.heap.size w wc)) ?first5 ?rest5
 case first5 =>
  intro J_ K_ hJ_ hK_
  have H := HC144.out
  clear HC144
  by_cases c172 : (t857 != t871) = true
  ·rw [if_pos c172] at H
   have c172b0 : (t857 != t871) = true := c172
   (try (have c172b1 : decide (t857 = t871) = false := by simpa using c172))
   (try (have c172b2 : (t857 == t871) = false := by simpa using c172))
   (try (have c172b3 : ¬ (t857 = t871) := by simpa using c172))
   clear c172
   (first | rw [c172b0] | (simp only [i64_w, i32_w]; rw [c172b0]) | skip)
   have H' := am_ H
   clear H
   go_wp2
   repeat (go_quiet (fail); try go_wp2)
   refine mt_ hJ_ ⟨_, rfl, ?rel14⟩
   case rel14 => exact ⟨_, (true), sr_, H', ⟨by have := HJ7.out; have := HJ23.out; first | omega | exact Nat.le_refl _⟩, ⟨rm_ (h := HO834.out)⟩, ⟨rm_ (h := HO837.out)⟩, ⟨rm_ (h := HO840.out)⟩, ⟨rm_ (h := HO864.out)⟩, ⟨rm_ (h := HO867.out)⟩, ⟨rm_ (h := HO870.out)⟩, ⟨kp_ BK844⟩, ⟨kp_ BK872⟩, ⟨hb_ HB⟩⟩
  rw [if_neg c172] at H
  have c172b0 : (t857 != t871) = false := by simpa using c172
  (try (have c172b1 : decide (t857 = t871) = true := by simpa using c172))
  (try (have c172b2 : (t857 == t871) = true := by simpa using c172))
  clear c172
  (first | rw [c172b0] | (simp only [i64_w, i32_w]; rw [c172b0]) | skip)
  revert H; refine bn_ ?_; rintro t879 A173 H; try dsimp only at H
  by_cases c174 : t879 = true
  ·subst c174
   rw [if_pos rfl] at H
   by_cases c175 : (t875 != t878) = true
   ·rw [if_pos c175] at H
    have c175b0 : (t875 != t878) = true := c175
    (try (have c175b1 : decide (t875 = t878) = false := by simpa using c175))
    (try (have c175b2 : (t875 == t878) = false := by simpa using c175))
    (try (have c175b3 : ¬ (t875 = t878) := by simpa using c175))
    clear c175
    have H' := am_ H
    clear H
    have := NB858_844.out
    have := NB844_858.out
    have := NB858_872.out
    have := NB872_858.out
    obtain ⟨hcz178_0, hcz178_1, hcz178_2, hcz178_3, hcz178_4, hcz178_5, hfz178_0, hfz178_1, hfz178_2, hfz178_3, hfz178_4, hfz178_5⟩ := bx6 BK858
    have := NB872_844.out
    have := NB844_872.out
    obtain ⟨hcz180_0, hcz180_1, hcz180_2, hcz180_3, hcz180_4, hcz180_5, hfz180_0, hfz180_1, hfz180_2, hfz180_3, hfz180_4, hfz180_5⟩ := bx6 BK872
    go_wp2_with (first | (go_at_call 14; (with_reducible refine (laws_pSameModel.calls kj23 t845 t846 t847 _ _ t848 _ _ t851 _ _ t854 t859 t860 t861 _ _ t862 _ _ t865 _ _ t868 true _ ?_ ?_ ?_ ?_ ?_ ?_ ?_ ?_ ?_ ?_ ?_ ?_ A173.out).mono ?_); exact Kd.C_o HO850; exact (Kd.R_reads' HO850.out).2.1; exact Kd.C_o HO853; exact (Kd.R_reads' HO853.out).2.1; exact Kd.C_o HO856; exact (Kd.R_reads' HO856.out).2.1; exact Kd.C_o HO864; exact (Kd.R_reads' HO864.out).2.1; exact Kd.C_o HO867; exact (Kd.R_reads' HO867.out).2.1; exact Kd.C_o HO870; exact (Kd.R_reads' HO870.out).2.1; rintro e w181 ⟨rfl, hb⟩; replace HO834 := am_ (Kd.R_below (Kd.R_p HO834) hb); replace HO837 := am_ (Kd.R_below (Kd.R_p HO837) hb); replace HO840 := am_ (Kd.R_below (Kd.R_p HO840) hb); replace HO850 := am_ (Kd.R_below (Kd.R_p HO850) hb); replace HO853 := am_ (Kd.R_below (Kd.R_p HO853) hb); replace HO856 := am_ (Kd.R_below (Kd.R_p HO856) hb); replace HO864 := am_ (Kd.R_below (Kd.R_p HO864) hb); replace HO867 := am_ (Kd.R_below (Kd.R_p HO867) hb); replace HO870 := am_ (Kd.R_below (Kd.R_p HO870) hb); replace BK844 := am_ (blk_below (kp_ BK844) hb); replace BK858 := am_ (blk_below (kp_ BK858) hb); replace BK872 := am_ (blk_below (kp_ BK872) hb); replace HB := am_ (below_step (hb_ HB) hb)))
    repeat (go_quiet (fail); try go_wp2)
    refine mt_ hJ_ ⟨_, rfl, ?rel15⟩
    case rel15 => exact ⟨_, (true), sr_, H', ⟨by have := HJ7.out; have := HJ23.out; first | omega | exact Nat.le_refl _⟩, ⟨rm_ (h := HO834.out)⟩, ⟨rm_ (h := HO837.out)⟩, ⟨rm_ (h := HO840.out)⟩, ⟨rm_ (h := HO864.out)⟩, ⟨rm_ (h := HO867.out)⟩, ⟨rm_ (h := HO870.out)⟩, ⟨kp_ BK844⟩, ⟨kp_ BK872⟩, ⟨hb_ HB⟩⟩
   rw [if_neg c175] at H
   have c175b0 : (t875 != t878) = false := by simpa using c175
   (try (have c175b1 : decide (t875 = t878) = true := by simpa using c175))
   (try (have c175b2 : (t875 == t878) = true := by simpa using c175))
   clear c175
   by_cases c182 : t873 = t876
   ·rw [if_pos c182] at H
    have c182b0 : (t873 == t876) = true := beq_iff_eq.mpr c182
    have c182b1 : (t873 != t876) = false := bne_eq_false_iff_eq.mpr c182
    clear c182
    by_cases c183 : t874 = t877
    ·rw [if_pos c183] at H
     have c183b0 : (t874 == t877) = true := beq_iff_eq.mpr c183
     have c183b1 : (t874 != t877) = false := bne_eq_false_iff_eq.mpr c183
     clear c183
     have H' := am_ H
     clear H
     have := NB858_844.out
     have := NB844_858.out
     have := NB858_872.out
     have := NB872_858.out
     obtain ⟨hcz186_0, hcz186_1, hcz186_2, hcz186_3, hcz186_4, hcz186_5, hfz186_0, hfz186_1, hfz186_2, hfz186_3, hfz186_4, hfz186_5⟩ := bx6 BK858
     have := NB872_844.out
     have := NB844_872.out
     obtain ⟨hcz188_0, hcz188_1, hcz188_2, hcz188_3, hcz188_4, hcz188_5, hfz188_0, hfz188_1, hfz188_2, hfz188_3, hfz188_4, hfz188_5⟩ := bx6 BK872
     go_wp2_with (first | (go_at_call 14; (with_reducible refine (laws_pSameModel.calls kj23 t845 t846 t847 _ _ t848 _ _ t851 _ _ t854 t859 t860 t861 _ _ t862 _ _ t865 _ _ t868 true _ ?_ ?_ ?_ ?_ ?_ ?_ ?_ ?_ ?_ ?_ ?_ ?_ A173.out).mono ?_); exact Kd.C_o HO850; exact (Kd.R_reads' HO850.out).2.1; exact Kd.C_o HO853; exact (Kd.R_reads' HO853.out).2.1; exact Kd.C_o HO856; exact (Kd.R_reads' HO856.out).2.1; exact Kd.C_o HO864; exact (Kd.R_reads' HO864.out).2.1; exact Kd.C_o HO867; exact (Kd.R_reads' HO867.out).2.1; exact Kd.C_o HO870; exact (Kd.R_reads' HO870.out).2.1; rintro e w189 ⟨rfl, hb⟩; replace HO834 := am_ (Kd.R_below (Kd.R_p HO834) hb); replace HO837 := am_ (Kd.R_below (Kd.R_p HO837) hb); replace HO840 := am_ (Kd.R_below (Kd.R_p HO840) hb); replace HO850 := am_ (Kd.R_below (Kd.R_p HO850) hb); replace HO853 := am_ (Kd.R_below (Kd.R_p HO853) hb); replace HO856 := am_ (Kd.R_below (Kd.R_p HO856) hb); replace HO864 := am_ (Kd.R_below (Kd.R_p HO864) hb); replace HO867 := am_ (Kd.R_below (Kd.R_p HO867) hb); replace HO870 := am_ (Kd.R_below (Kd.R_p HO870) hb); replace BK844 := am_ (blk_below (kp_ BK844) hb); replace BK858 := am_ (blk_below (kp_ BK858) hb); replace BK872 := am_ (blk_below (kp_ BK872) hb); replace HB := am_ (below_step (hb_ HB) hb)))
     repeat (go_quiet (fail); try go_wp2)
     refine mt_ hJ_ ⟨_, rfl, ?rel16⟩
     case rel16 => exact ⟨_, ((t857 != t875)), sr_, H', ⟨by have := HJ7.out; have := HJ23.out; first | omega | exact Nat.le_refl _⟩, ⟨rm_ (h := HO834.out)⟩, ⟨rm_ (h := HO837.out)⟩, ⟨rm_ (h := HO840.out)⟩, ⟨rm_ (h := HO864.out)⟩, ⟨rm_ (h := HO867.out)⟩, ⟨rm_ (h := HO870.out)⟩, ⟨kp_ BK844⟩, ⟨kp_ BK872⟩, ⟨hb_ HB⟩⟩
    rw [if_neg c183] at H
    have c183b0 : (t874 == t877) = false := beq_eq_false_iff_ne.mpr c183
    have c183b1 : (t874 != t877) = true := bne_iff_ne.mpr c183
    have H' := am_ H
    clear H
    have := NB858_844.out
    have := NB844_858.out
    have := NB858_872.out
    have := NB872_858.out
    obtain ⟨hcz192_0, hcz192_1, hcz192_2, hcz192_3, hcz192_4, hcz192_5, hfz192_0, hfz192_1, hfz192_2, hfz192_3, hfz192_4, hfz192_5⟩ := bx6 BK858
    have := NB872_844.out
    have := NB844_872.out
    obtain ⟨hcz194_0, hcz194_1, hcz194_2, hcz194_3, hcz194_4, hcz194_5, hfz194_0, hfz194_1, hfz194_2, hfz194_3, hfz194_4, hfz194_5⟩ := bx6 BK872
    go_wp2_with (first | (go_at_call 14; (with_reducible refine (laws_pSameModel.calls kj23 t845 t846 t847 _ _ t848 _ _ t851 _ _ t854 t859 t860 t861 _ _ t862 _ _ t865 _ _ t868 true _ ?_ ?_ ?_ ?_ ?_ ?_ ?_ ?_ ?_ ?_ ?_ ?_ A173.out).mono ?_); exact Kd.C_o HO850; exact (Kd.R_reads' HO850.out).2.1; exact Kd.C_o HO853; exact (Kd.R_reads' HO853.out).2.1; exact Kd.C_o HO856; exact (Kd.R_reads' HO856.out).2.1; exact Kd.C_o HO864; exact (Kd.R_reads' HO864.out).2.1; exact Kd.C_o HO867; exact (Kd.R_reads' HO867.out).2.1; exact Kd.C_o HO870; exact (Kd.R_reads' HO870.out).2.1; rintro e w195 ⟨rfl, hb⟩; replace HO834 := am_ (Kd.R_below (Kd.R_p HO834) hb); replace HO837 := am_ (Kd.R_below (Kd.R_p HO837) hb); replace HO840 := am_ (Kd.R_below (Kd.R_p HO840) hb); replace HO850 := am_ (Kd.R_below (Kd.R_p HO850) hb); replace HO853 := am_ (Kd.R_below (Kd.R_p HO853) hb); replace HO856 := am_ (Kd.R_below (Kd.R_p HO856) hb); replace HO864 := am_ (Kd.R_below (Kd.R_p HO864) hb); replace HO867 := am_ (Kd.R_below (Kd.R_p HO867) hb); replace HO870 := am_ (Kd.R_below (Kd.R_p HO870) hb); replace BK844 := am_ (blk_below (kp_ BK844) hb); replace BK858 := am_ (blk_below (kp_ BK858) hb); replace BK872 := am_ (blk_below (kp_ BK872) hb); replace HB := am_ (below_step (hb_ HB) hb)))
    repeat (go_quiet (fail); try go_wp2)
    refine mt_ hJ_ ⟨_, rfl, ?rel17⟩
    case rel17 => exact ⟨_, (true), sr_, H', ⟨by have := HJ7.out; have := HJ23.out; first | omega | exact Nat.le_refl _⟩, ⟨rm_ (h := HO834.out)⟩, ⟨rm_ (h := HO837.out)⟩, ⟨rm_ (h := HO840.out)⟩, ⟨rm_ (h := HO864.out)⟩, ⟨rm_ (h := HO867.out)⟩, ⟨rm_ (h := HO870.out)⟩, ⟨kp_ BK844⟩, ⟨kp_ BK872⟩, ⟨hb_ HB⟩⟩
   rw [if_neg c182] at H
   have c182b0 : (t873 == t876) = false := beq_eq_false_iff_ne.mpr c182
   have c182b1 : (t873 != t876) = true := bne_iff_ne.mpr c182
   have H' := am_ H
   clear H
   have := NB858_844.out
   have := NB844_858.out
   have := NB858_872.out
   have := NB872_858.out
   obtain ⟨hcz198_0, hcz198_1, hcz198_2, hcz198_3, hcz198_4, hcz198_5, hfz198_0, hfz198_1, hfz198_2, hfz198_3, hfz198_4, hfz198_5⟩ := bx6 BK858
   have := NB872_844.out
   have := NB844_872.out
   obtain ⟨hcz200_0, hcz200_1, hcz200_2, hcz200_3, hcz200_4, hcz200_5, hfz200_0, hfz200_1, hfz200_2, hfz200_3, hfz200_4, hfz200_5⟩ := bx6 BK872
   go_wp2_with (first | (go_at_call 14; (with_reducible refine (laws_pSameModel.calls kj23 t845 t846 t847 _ _ t848 _ _ t851 _ _ t854 t859 t860 t861 _ _ t862 _ _ t865 _ _ t868 true _ ?_ ?_ ?_ ?_ ?_ ?_ ?_ ?_ ?_ ?_ ?_ ?_ A173.out).mono ?_); exact Kd.C_o HO850; exact (Kd.R_reads' HO850.out).2.1; exact Kd.C_o HO853; exact (Kd.R_reads' HO853.out).2.1; exact Kd.C_o HO856; exact (Kd.R_reads' HO856.out).2.1; exact Kd.C_o HO864; exact (Kd.R_reads' HO864.out).2.1; exact Kd.C_o HO867; exact (Kd.R_reads' HO867.out).2.1; exact Kd.C_o HO870; exact (Kd.R_reads' HO870.out).2.1; rintro e w201 ⟨rfl, hb⟩; replace HO834 := am_ (Kd.R_below (Kd.R_p HO834) hb); replace HO837 := am_ (Kd.R_below (Kd.R_p HO837) hb); replace HO840 := am_ (Kd.R_below (Kd.R_p HO840) hb); replace HO850 := am_ (Kd.R_below (Kd.R_p HO850) hb); replace HO853 := am_ (Kd.R_below (Kd.R_p HO853) hb); replace HO856 := am_ (Kd.R_below (Kd.R_p HO856) hb); replace HO864 := am_ (Kd.R_below (Kd.R_p HO864) hb); replace HO867 := am_ (Kd.R_below (Kd.R_p HO867) hb); replace HO870 := am_ (Kd.R_below (Kd.R_p HO870) hb); replace BK844 := am_ (blk_below (kp_ BK844) hb); replace BK858 := am_ (blk_below (kp_ BK858) hb); replace BK872 := am_ (blk_below (kp_ BK872) hb); replace HB := am_ (below_step (hb_ HB) hb)))
   repeat (go_quiet (fail); try go_wp2)
   refine mt_ hJ_ ⟨_, rfl, ?rel18⟩
   case rel18 => exact ⟨_, (true), sr_, H', ⟨by have := HJ7.out; have := HJ23.out; first | omega | exact Nat.le_refl _⟩, ⟨rm_ (h := HO834.out)⟩, ⟨rm_ (h := HO837.out)⟩, ⟨rm_ (h := HO840.out)⟩, ⟨rm_ (h := HO864.out)⟩, ⟨rm_ (h := HO867.out)⟩, ⟨rm_ (h := HO870.out)⟩, ⟨kp_ BK844⟩, ⟨kp_ BK872⟩, ⟨hb_ HB⟩⟩
  replace c174 := Bool.eq_false_iff.mpr c174
  subst c174
  rw [if_neg (show ¬ (false = true) by decide)] at H
  have H' := am_ H
  clear H
  have := NB858_844.out
  have := NB844_858.out
  have := NB858_872.out
  have := NB872_858.out
  obtain ⟨hcz204_0, hcz204_1, hcz204_2, hcz204_3, hcz204_4, hcz204_5, hfz204_0, hfz204_1, hfz204_2, hfz204_3, hfz204_4, hfz204_5⟩ := bx6 BK858
  have := NB872_844.out
  have := NB844_872.out
  obtain ⟨hcz206_0, hcz206_1, hcz206_2, hcz206_3, hcz206_4, hcz206_5, hfz206_0, hfz206_1, hfz206_2, hfz206_3, hfz206_4, hfz206_5⟩ := bx6 BK872
  go_wp2_with (first | (go_at_call 14; (with_reducible refine (laws_pSameModel.calls kj23 t845 t846 t847 _ _ t848 _ _ t851 _ _ t854 t859 t860 t861 _ _ t862 _ _ t865 _ _ t868 false _ ?_ ?_ ?_ ?_ ?_ ?_ ?_ ?_ ?_ ?_ ?_ ?_ A173.out).mono ?_); exact Kd.C_o HO850; exact (Kd.R_reads' HO850.out).2.1; exact Kd.C_o HO853; exact (Kd.R_reads' HO853.out).2.1; exact Kd.C_o HO856; exact (Kd.R_reads' HO856.out).2.1; exact Kd.C_o HO864; exact (Kd.R_reads' HO864.out).2.1; exact Kd.C_o HO867; exact (Kd.R_reads' HO867.out).2.1; exact Kd.C_o HO870; exact (Kd.R_reads' HO870.out).2.1; rintro e w207 ⟨rfl, hb⟩; replace HO834 := am_ (Kd.R_below (Kd.R_p HO834) hb); replace HO837 := am_ (Kd.R_below (Kd.R_p HO837) hb); replace HO840 := am_ (Kd.R_below (Kd.R_p HO840) hb); replace HO850 := am_ (Kd.R_below (Kd.R_p HO850) hb); replace HO853 := am_ (Kd.R_below (Kd.R_p HO853) hb); replace HO856 := am_ (Kd.R_below (Kd.R_p HO856) hb); replace HO864 := am_ (Kd.R_below (Kd.R_p HO864) hb); replace HO867 := am_ (Kd.R_below (Kd.R_p HO867) hb); replace HO870 := am_ (Kd.R_below (Kd.R_p HO870) hb); replace BK844 := am_ (blk_below (kp_ BK844) hb); replace BK858 := am_ (blk_below (kp_ BK858) hb); replace BK872 := am_ (blk_below (kp_ BK872) hb); replace HB := am_ (below_step (hb_ HB) hb)))
  repeat (go_quiet (fail); try go_wp2)
  refine mt_ hJ_ ⟨_, rfl, ?rel19⟩
  case rel19 => exact ⟨_, (true), sr_, H', ⟨by have := HJ7.out; have := HJ23.out; first | omega | exact Nat.le_refl _⟩, ⟨rm_ (h := HO834.out)⟩, ⟨rm_ (h := HO837.out)⟩, ⟨rm_ (h := HO840.out)⟩, ⟨rm_ (h := HO864.out)⟩, ⟨rm_ (h := HO867.out)⟩, ⟨rm_ (h := HO870.out)⟩, ⟨kp_ BK844⟩, ⟨kp_ BK872⟩, ⟨hb_ HB⟩⟩
 repeat intro _
 refine ⟨fun wc hcut => ?_⟩
 obtain ⟨v253, h253_, hcut⟩ := hcut; obtain rfl := Option.some.inj h253_
 clear HC144
 obtain ⟨kq, x253_143, rfl, HA, HJ143, HO_845003, HO_845004, HO_845005, HO_873003, HO_873004, HO_873005, BK844, BK872, HB⟩ := hcut
 cases kq with
 | zero => exact absurd HA.out (by simp [laws_FnModels.j5])
 | succ kj143 => ?_
 have H := HA.out
 clear HA
 simp only [laws_FnModels.j5] at H
 by_cases c208 : x253_143 = true
 ·subst c208
  rw [if_pos rfl] at H
  obtain rfl := Option.some.inj H
  go_wp2
  repeat (go_quiet (fail); try go_wp2)
  go_ret
  exact ad_ (hb_ HB)
 replace c208 := Bool.eq_false_iff.mpr c208
 subst c208
 rw [if_neg (show ¬ (false = true) by decide)] at H
 have HC209 := am_ H
 clear H
 go_upto_region 36 with (fail)
 repeat (go_quiet (fail); go_upto_region 36 with (fail))
 refine wp_cutF [1,1,1,1,1,1,1,1,1,1,1,1,1,1,1,1,1,1,1,1,1,1,1,1,1,1,1,1,1,1,1,1,1,1,1,1,1,1,1,1,1,1,1,1,1,1] (fun us wc => ∃ v265 : Value, us[265]? = some v265 ∧ ∃ (kq : Nat) (x265_208 : Bool), v265 = .bool x265_208 ∧ Aside0 (laws_FnModels.j6 kq l1 x265_208 = some r) ∧ Aside0 (kq ≤ kj143) ∧ Aside0 (Below w.heap.size w wc)) ?first6 ?rest6
 case first6 =>
  intro J_ K_ hJ_ hK_
  have H := HC209.out
  clear HC209
  by_cases c210 : t857 = true
  case neg => replace c210 := Bool.eq_false_iff.mpr c210; subst c210; rw [if_neg (show ¬ (false = true) by decide)] at H; have H' := am_ H; clear H; go_wp2; (repeat (go_quiet (fail); try go_wp2)); refine mt_ hJ_ ⟨_, rfl, ?rel20⟩; (case rel20 => exact ⟨_, (false), sr_, H', ⟨by have := HJ7.out; have := HJ23.out; have := HJ143.out; first | omega | exact Nat.le_refl _⟩, ⟨hb_ HB⟩⟩)
  subst c210
  rw [if_pos rfl] at H
  revert H; refine bn_ ?_; rintro t880 A211 H; try dsimp only at H
  revert H; refine bn_ ?_; rintro t881 A212 H; try dsimp only at H
  have H' := am_ H
  clear H
  have := NB872_844.out
  have := NB844_872.out
  obtain ⟨hcz214_0, hcz214_1, hcz214_2, hcz214_3, hcz214_4, hcz214_5, hfz214_0, hfz214_1, hfz214_2, hfz214_3, hfz214_4, hfz214_5⟩ := bx6 BK872
  go_wp2_with (first | (go_at_call 17; (with_reducible refine (laws_pSum.calls kj143 _ _ t862 t880 _ ?_ ?_ A211.out).mono ?_); exact Kd.C_o HO_873003; exact (Kd.R_reads' HO_873003.out).2.1; rintro e w' ⟨rfl, ⟨nd, rfl⟩⟩; (try first | exact ⟨rfl, _, World.drewN_drewN _ _ _⟩ | exact ⟨rfl, _, Eq.trans (World.drewN_drewN _ _ _) (congrArg (World.drewN _) (Nat.add_assoc _ _ _))⟩); obtain ⟨hcz215_0, hcz215_1, hcz215_2, hcz215_3, hcz215_4, hcz215_5, hfz215_0, hfz215_1, hfz215_2, hfz215_3, hfz215_4, hfz215_5⟩ := bx6 BK844) | (go_at_call 17; (with_reducible refine (laws_pSum.calls kj143 _ _ t832 t881 _ ?_ ?_ A212.out).mono ?_); exact Kd.C_o HO_845003; exact (Kd.R_reads' HO_845003.out).2.1; rintro e w' ⟨rfl, ⟨nd, rfl⟩⟩; (try first | exact ⟨rfl, _, World.drewN_drewN _ _ _⟩ | exact ⟨rfl, _, Eq.trans (World.drewN_drewN _ _ _) (congrArg (World.drewN _) (Nat.add_assoc _ _ _))⟩)))
  repeat (go_quiet (first | (go_at_call 17; (with_reducible refine (laws_pSum.calls kj143 _ _ t862 t880 _ ?_ ?_ A211.out).mono ?_); exact Kd.C_o HO_873003; exact (Kd.R_reads' HO_873003.out).2.1; rintro e w' ⟨rfl, ⟨nd, rfl⟩⟩; (try first | exact ⟨rfl, _, World.drewN_drewN _ _ _⟩ | exact ⟨rfl, _, Eq.trans (World.drewN_drewN _ _ _) (congrArg (World.drewN _) (Nat.add_assoc _ _ _))⟩); obtain ⟨hcz215_0, hcz215_1, hcz215_2, hcz215_3, hcz215_4, hcz215_5, hfz215_0, hfz215_1, hfz215_2, hfz215_3, hfz215_4, hfz215_5⟩ := bx6 BK844) | (go_at_call 17; (with_reducible refine (laws_pSum.calls kj143 _ _ t832 t881 _ ?_ ?_ A212.out).mono ?_); exact Kd.C_o HO_845003; exact (Kd.R_reads' HO_845003.out).2.1; rintro e w' ⟨rfl, ⟨nd, rfl⟩⟩; (try first | exact ⟨rfl, _, World.drewN_drewN _ _ _⟩ | exact ⟨rfl, _, Eq.trans (World.drewN_drewN _ _ _) (congrArg (World.drewN _) (Nat.add_assoc _ _ _))⟩))); try go_wp2_with (first | (go_at_call 17; (with_reducible refine (laws_pSum.calls kj143 _ _ t862 t880 _ ?_ ?_ A211.out).mono ?_); exact Kd.C_o HO_873003; exact (Kd.R_reads' HO_873003.out).2.1; rintro e w' ⟨rfl, ⟨nd, rfl⟩⟩; (try first | exact ⟨rfl, _, World.drewN_drewN _ _ _⟩ | exact ⟨rfl, _, Eq.trans (World.drewN_drewN _ _ _) (congrArg (World.drewN _) (Nat.add_assoc _ _ _))⟩); obtain ⟨hcz215_0, hcz215_1, hcz215_2, hcz215_3, hcz215_4, hcz215_5, hfz215_0, hfz215_1, hfz215_2, hfz215_3, hfz215_4, hfz215_5⟩ := bx6 BK844) | (go_at_call 17; (with_reducible refine (laws_pSum.calls kj143 _ _ t832 t881 _ ?_ ?_ A212.out).mono ?_); exact Kd.C_o HO_845003; exact (Kd.R_reads' HO_845003.out).2.1; rintro e w' ⟨rfl, ⟨nd, rfl⟩⟩; (try first | exact ⟨rfl, _, World.drewN_drewN _ _ _⟩ | exact ⟨rfl, _, Eq.trans (World.drewN_drewN _ _ _) (congrArg (World.drewN _) (Nat.add_assoc _ _ _))⟩))))
  refine mt_ hJ_ ⟨_, rfl, ?rel21⟩
  case rel21 => exact ⟨_, (((wrap64 (t880 + t876)) != t881)), (by simp only [i64_w]), H', ⟨by have := HJ7.out; have := HJ23.out; have := HJ143.out; first | omega | exact Nat.le_refl _⟩, ⟨hb_ HB⟩⟩
 repeat intro _
 refine ⟨fun wc hcut => ?_⟩
 obtain ⟨v265, h265_, hcut⟩ := hcut; obtain rfl := Option.some.inj h265_
 clear HC209
 obtain ⟨kq, x265_208, rfl, HA, HJ208, HB⟩ := hcut
 cases kq with
 | zero => exact absurd HA.out (by simp [laws_FnModels.j6])
 | succ kj208 => ?_
 have H := HA.out
 clear HA
 simp only [laws_FnModels.j6] at H
 by_cases c216 : x265_208 = true
 ·subst c216
  rw [if_pos rfl] at H
  obtain rfl := Option.some.inj H
  go_wp2
  repeat (go_quiet (fail); try go_wp2)
  go_ret
  exact ad_ (hb_ HB)
 replace c216 := Bool.eq_false_iff.mpr c216
 subst c216
 rw [if_neg (show ¬ (false = true) by decide)] at H
 revert H; refine bn_ ?_; rintro t882 A217 H; try dsimp only at H
 revert H; refine bn_ ?_; rintro ⟨t883, t884, t885, t886, t889, t892, t895⟩ A218 H; try dsimp only at H
 revert H; refine bn_ ?_; rintro ⟨t897, t898, t899, t900, t903, t906, t909⟩ A219 H; try dsimp only at H
 by_cases c220 : (t895 == t909) = true
 ·rw [if_pos c220] at H
  have c220b0 : (t895 == t909) = true := c220
  (try (have c220b1 : decide (t895 = t909) = true := by simpa using c220))
  (try (have c220b2 : (t895 == t909) = true := by simpa using c220))
  clear c220
  revert H; refine bn_ ?_; rintro t911 A221 H; try dsimp only at H
  obtain rfl := Option.some.inj H
  go_wp2_with (first | (go_at_call 26; (with_reducible refine (spec_DrawParseModel.calls kj208 _ _ l1 t882 _ ?_ ?_ A217.out).mono ?_); exact Kd.C_w HR1 HB; exact HC1.out; rintro e w222 ⟨rfl, hb⟩; replace HB := am_ (below_step (hb_ HB) hb)) | (go_at_call 9; (with_reducible refine (impl_ParseModel.calls kj208 t882 t883 t884 t885 t886 t889 t892 t895 _ A218.out (by exact LaidW.step HLw (hb_ HB))).mono ?_); rintro e w223 ⟨v887, v890, v893, rfl, ho0, ho1, ho2, hb⟩; have HO888 := am_ (Kd.R_lower ho0 (below_size (hb_ HB))); have HO891 := am_ (Kd.R_lower ho1 (below_size (hb_ HB))); have HO894 := am_ (Kd.R_lower ho2 (below_size (hb_ HB))); replace HB := am_ (below_step (hb_ HB) hb)) | ((with_reducible refine gate_dst (N := 42) rfl ?_); refine bv_ 42 (cs := #[.int .i64 0, .int .i64 0, .int .i64 0, .slice none 0 0, .slice none 0 0, .slice none 0 0]) (t := 28) ?_; intro gb896 hg w224 hbox hb; have BK896 := am_ (hbox); have GW896 := gs_ hg HB; have GE896 := gs_ hg HB; replace HO888 := Kd.R_b HO888 hb; replace HO891 := Kd.R_b HO891 hb; replace HO894 := Kd.R_b HO894 hb; replace HB := hbs_ HB hb; clear hb hbox hg; obtain ⟨hcz225_0, hcz225_1, hcz225_2, hcz225_3, hcz225_4, hcz225_5, hfz225_0, hfz225_1, hfz225_2, hfz225_3, hfz225_4, hfz225_5⟩ := bx6 BK896; obtain ⟨Ao226, co226, eo226⟩ := Kd.R_slice HO888.out; subst eo226; obtain ⟨Ao227, co227, eo227⟩ := Kd.R_slice HO891.out; subst eo227; obtain ⟨Ao228, co228, eo228⟩ := Kd.R_slice HO894.out; subst eo228) | (go_at_call 27; (with_reducible refine (spec_ParseModel.calls kj208 t882 t897 t898 t899 t900 t903 t906 t909 _ A219.out).mono ?_); rintro e w229 ⟨v901, v904, v907, rfl, ho0, ho1, ho2, hb⟩; have n0_ := am_ (Kd.R_mono (Kd.R_told (Kd.R_told (Kd.R_told (Kd.R_old (Kd.R_s HO888 BK896) hb) (Kd.R_base ho0)) (Kd.R_base ho1)) (Kd.R_base ho2)) (fun _ h_ => h_.1)); have n1_ := am_ (Kd.R_mono (Kd.R_told (Kd.R_told (Kd.R_told (Kd.R_old (Kd.R_s HO891 BK896) hb) (Kd.R_base ho0)) (Kd.R_base ho1)) (Kd.R_base ho2)) (fun _ h_ => h_.1)); have n2_ := am_ (Kd.R_mono (Kd.R_told (Kd.R_told (Kd.R_told (Kd.R_old (Kd.R_s HO894 BK896) hb) (Kd.R_base ho0)) (Kd.R_base ho1)) (Kd.R_base ho2)) (fun _ h_ => h_.1)); have n3_ := am_ (Kd.R_lower (Kd.R_ns (Kd.R_ns (Kd.R_ns ho0 HO888 BK896) HO891 BK896) HO894 BK896) (below_size (hb_ HB))); have n4_ := am_ (Kd.R_lower (Kd.R_ns (Kd.R_ns (Kd.R_ns ho1 HO888 BK896) HO891 BK896) HO894 BK896) (below_size (hb_ HB))); have n5_ := am_ (Kd.R_lower (Kd.R_ns (Kd.R_ns (Kd.R_ns ho2 HO888 BK896) HO891 BK896) HO894 BK896) (below_size (hb_ HB))); have n6_ := am_ (blk_below (g := gb896) (o := .cells #[.int .i64 t883, .int .i64 t884, .int .i64 t885, .slice Ao226 t886.length co226, .slice Ao227 t889.length co227, .slice Ao228 t892.length co228] 28 (0, 0)) (kpq_ (kputs BK896 [(0, _), (1, _), (2, _), (3, _), (4, _), (5, _)])) hb); have n7_ := am_ (below_step (hb_ HB) hb); clear HO888; clear HO891; clear HO894; clear BK896; clear HB; have HO888 := n0_; have HO891 := n1_; have HO894 := n2_; have HO902 := n3_; have HO905 := n4_; have HO908 := n5_; have BK896 := n6_; have HB := n7_; clear n0_ n1_ n2_ n3_ n4_ n5_ n6_ n7_) | ((with_reducible refine gate_dst (N := 44) rfl ?_); refine bv_ 44 (cs := #[.int .i64 0, .int .i64 0, .int .i64 0, .slice none 0 0, .slice none 0 0, .slice none 0 0]) (t := 28) ?_; intro gb910 hg w230 hbox hb; have BK910 := am_ (hbox); have GW910 := gs_ hg HB; have GE910 := gs_ hg HB; have NB896_910 := nl_ hg BK896; have NB910_896 := ng_ hg BK896; replace HO888 := Kd.R_b HO888 hb; replace HO891 := Kd.R_b HO891 hb; replace HO894 := Kd.R_b HO894 hb; replace HO902 := Kd.R_b HO902 hb; replace HO905 := Kd.R_b HO905 hb; replace HO908 := Kd.R_b HO908 hb; replace BK896 := kb_ BK896 hb; replace HB := hbs_ HB hb; clear hb hbox hg; have := NB910_896.out; have := NB896_910.out; obtain ⟨hcz232_0, hcz232_1, hcz232_2, hcz232_3, hcz232_4, hcz232_5, hfz232_0, hfz232_1, hfz232_2, hfz232_3, hfz232_4, hfz232_5⟩ := bx6 BK910; obtain ⟨Ao233, co233, eo233⟩ := Kd.R_slice HO902.out; subst eo233; obtain ⟨Ao234, co234, eo234⟩ := Kd.R_slice HO905.out; subst eo234; obtain ⟨Ao235, co235, eo235⟩ := Kd.R_slice HO908.out; subst eo235; obtain ⟨hcz236_0, hcz236_1, hcz236_2, hcz236_3, hcz236_4, hcz236_5, hfz236_0, hfz236_1, hfz236_2, hfz236_3, hfz236_4, hfz236_5⟩ := bx6 BK896) | (go_at_call 14; (with_reducible refine (laws_pSameModel.calls kj208 t883 t884 t885 _ _ t886 _ _ t889 _ _ t892 t897 t898 t899 _ _ t900 _ _ t903 _ _ t906 t911 _ ?_ ?_ ?_ ?_ ?_ ?_ ?_ ?_ ?_ ?_ ?_ ?_ A221.out).mono ?_); exact (Kd.R_reads' (Kd.R_s HO888 BK910)).2.2; exact (Kd.R_reads' HO888.out).2.1; exact (Kd.R_reads' (Kd.R_s HO891 BK910)).2.2; exact (Kd.R_reads' HO891.out).2.1; exact (Kd.R_reads' (Kd.R_s HO894 BK910)).2.2; exact (Kd.R_reads' HO894.out).2.1; exact (Kd.R_reads' (Kd.R_s HO902 BK910)).2.2; exact (Kd.R_reads' HO902.out).2.1; exact (Kd.R_reads' (Kd.R_s HO905 BK910)).2.2; exact (Kd.R_reads' HO905.out).2.1; exact (Kd.R_reads' (Kd.R_s HO908 BK910)).2.2; exact (Kd.R_reads' HO908.out).2.1; rintro e w237 ⟨rfl, hb⟩; replace HO888 := am_ (Kd.R_below (Kd.R_s HO888 BK910) hb); replace HO891 := am_ (Kd.R_below (Kd.R_s HO891 BK910) hb); replace HO894 := am_ (Kd.R_below (Kd.R_s HO894 BK910) hb); replace HO902 := am_ (Kd.R_below (Kd.R_s HO902 BK910) hb); replace HO905 := am_ (Kd.R_below (Kd.R_s HO905 BK910) hb); replace HO908 := am_ (Kd.R_below (Kd.R_s HO908 BK910) hb); replace BK896 := am_ (blk_below (kf_ BK896 NB896_910) hb); replace BK910 := am_ (blk_below (g := gb910) (o := .cells #[.int .i64 t897, .int .i64 t898, .int .i64 t899, .slice Ao233 t900.length co233, .slice Ao234 t903.length co234, .slice Ao235 t906.length co235] 28 (0, 0)) (kpq_ (kputs BK910 [(0, _), (1, _), (2, _), (3, _), (4, _), (5, _)])) hb); replace HB := am_ (below_step (hb_ HB) hb)))
  repeat (go_quiet (fail); try go_wp2)
  go_ret
  exact ad_ (hb_ HB)
 rw [if_neg c220] at H
 have c220b0 : (t895 == t909) = false := by simpa using c220
 (try (have c220b1 : decide (t895 = t909) = false := by simpa using c220))
 (try (have c220b2 : (t895 == t909) = false := by simpa using c220))
 (try (have c220b3 : ¬ (t895 = t909) := by simpa using c220))
 clear c220
 obtain rfl := Option.some.inj H
 go_wp2_with (first | (go_at_call 26; (with_reducible refine (spec_DrawParseModel.calls kj208 _ _ l1 t882 _ ?_ ?_ A217.out).mono ?_); exact Kd.C_w HR1 HB; exact HC1.out; rintro e w238 ⟨rfl, hb⟩; replace HB := am_ (below_step (hb_ HB) hb)) | (go_at_call 9; (with_reducible refine (impl_ParseModel.calls kj208 t882 t883 t884 t885 t886 t889 t892 t895 _ A218.out (by exact LaidW.step HLw (hb_ HB))).mono ?_); rintro e w239 ⟨v887, v890, v893, rfl, ho0, ho1, ho2, hb⟩; have HO888 := am_ (Kd.R_lower ho0 (below_size (hb_ HB))); have HO891 := am_ (Kd.R_lower ho1 (below_size (hb_ HB))); have HO894 := am_ (Kd.R_lower ho2 (below_size (hb_ HB))); replace HB := am_ (below_step (hb_ HB) hb)) | ((with_reducible refine gate_dst (N := 42) rfl ?_); refine bv_ 42 (cs := #[.int .i64 0, .int .i64 0, .int .i64 0, .slice none 0 0, .slice none 0 0, .slice none 0 0]) (t := 28) ?_; intro gb896 hg w240 hbox hb; have BK896 := am_ (hbox); have GW896 := gs_ hg HB; have GE896 := gs_ hg HB; replace HO888 := Kd.R_b HO888 hb; replace HO891 := Kd.R_b HO891 hb; replace HO894 := Kd.R_b HO894 hb; replace HB := hbs_ HB hb; clear hb hbox hg; obtain ⟨hcz241_0, hcz241_1, hcz241_2, hcz241_3, hcz241_4, hcz241_5, hfz241_0, hfz241_1, hfz241_2, hfz241_3, hfz241_4, hfz241_5⟩ := bx6 BK896; obtain ⟨Ao242, co242, eo242⟩ := Kd.R_slice HO888.out; subst eo242; obtain ⟨Ao243, co243, eo243⟩ := Kd.R_slice HO891.out; subst eo243; obtain ⟨Ao244, co244, eo244⟩ := Kd.R_slice HO894.out; subst eo244) | (go_at_call 27; (with_reducible refine (spec_ParseModel.calls kj208 t882 t897 t898 t899 t900 t903 t906 t909 _ A219.out).mono ?_); rintro e w245 ⟨v901, v904, v907, rfl, ho0, ho1, ho2, hb⟩; have n0_ := am_ (Kd.R_mono (Kd.R_told (Kd.R_told (Kd.R_told (Kd.R_old (Kd.R_s HO888 BK896) hb) (Kd.R_base ho0)) (Kd.R_base ho1)) (Kd.R_base ho2)) (fun _ h_ => h_.1)); have n1_ := am_ (Kd.R_mono (Kd.R_told (Kd.R_told (Kd.R_told (Kd.R_old (Kd.R_s HO891 BK896) hb) (Kd.R_base ho0)) (Kd.R_base ho1)) (Kd.R_base ho2)) (fun _ h_ => h_.1)); have n2_ := am_ (Kd.R_mono (Kd.R_told (Kd.R_told (Kd.R_told (Kd.R_old (Kd.R_s HO894 BK896) hb) (Kd.R_base ho0)) (Kd.R_base ho1)) (Kd.R_base ho2)) (fun _ h_ => h_.1)); have n3_ := am_ (Kd.R_lower (Kd.R_ns (Kd.R_ns (Kd.R_ns ho0 HO888 BK896) HO891 BK896) HO894 BK896) (below_size (hb_ HB))); have n4_ := am_ (Kd.R_lower (Kd.R_ns (Kd.R_ns (Kd.R_ns ho1 HO888 BK896) HO891 BK896) HO894 BK896) (below_size (hb_ HB))); have n5_ := am_ (Kd.R_lower (Kd.R_ns (Kd.R_ns (Kd.R_ns ho2 HO888 BK896) HO891 BK896) HO894 BK896) (below_size (hb_ HB))); have n6_ := am_ (blk_below (g := gb896) (o := .cells #[.int .i64 t883, .int .i64 t884, .int .i64 t885, .slice Ao242 t886.length co242, .slice Ao243 t889.length co243, .slice Ao244 t892.length co244] 28 (0, 0)) (kpq_ (kputs BK896 [(0, _), (1, _), (2, _), (3, _), (4, _), (5, _)])) hb); have n7_ := am_ (below_step (hb_ HB) hb); clear HO888; clear HO891; clear HO894; clear BK896; clear HB; have HO888 := n0_; have HO891 := n1_; have HO894 := n2_; have HO902 := n3_; have HO905 := n4_; have HO908 := n5_; have BK896 := n6_; have HB := n7_; clear n0_ n1_ n2_ n3_ n4_ n5_ n6_ n7_; try clear BK896; try clear GW896; try clear GE896; try clear HO888; try clear HO891; try clear HO894) | ((with_reducible refine gate_dst (N := 44) rfl ?_); refine bv_ 44 (cs := #[.int .i64 0, .int .i64 0, .int .i64 0, .slice none 0 0, .slice none 0 0, .slice none 0 0]) (t := 28) ?_; intro gb910 hg w246 hbox hb; have BK910 := am_ (hbox); have GW910 := gs_ hg HB; have GE910 := gs_ hg HB; replace HO902 := Kd.R_b HO902 hb; replace HO905 := Kd.R_b HO905 hb; replace HO908 := Kd.R_b HO908 hb; replace HB := hbs_ HB hb; clear hb hbox hg; obtain ⟨hcz247_0, hcz247_1, hcz247_2, hcz247_3, hcz247_4, hcz247_5, hfz247_0, hfz247_1, hfz247_2, hfz247_3, hfz247_4, hfz247_5⟩ := bx6 BK910; obtain ⟨Ao248, co248, eo248⟩ := Kd.R_slice HO902.out; subst eo248; obtain ⟨Ao249, co249, eo249⟩ := Kd.R_slice HO905.out; subst eo249; obtain ⟨Ao250, co250, eo250⟩ := Kd.R_slice HO908.out; subst eo250))
 repeat (go_quiet (fail); try go_wp2)
 go_ret
 exact ad_ (hb_ HB)

/-- THE ONE PURE STATEMENT of laws_FnModels: yours. -/
def laws_FnModels.Pure : Prop := ∀ (l0 : List Int) (l1 : List Int), l0.length ≤ maxLen → l0.length * 1 ≤ 140737488351232 → (∀ x ∈ l0, (Lit.int .u8 x).wf = true) → l1.length ≤ maxLen → l1.length * 1 ≤ 140737488351232 → (∀ x ∈ l1, (Lit.int .u8 x).wf = true) → ∃ k, laws_FnModels.f k l0 l1 = some true
end Go.Proofs.YthphbkkkbolcnaaGreatDoor.PFnModels
