-- Laid for this claim by wip/tools/print2.sh, a changed copy of the kit's print (wip/tools/patch_print.py): not by print.sh.
import Derived.Test.YtceajigggcihnaaPFnPiecesx0
import Derived.Test.YtceajigggcihnaaPFnPiecesx1
import Derived.Test.YtceajigggcihnaaPFnPiecesx2
import Derived.Test.YtceajigggcihnaaPFnPiecesx4
import Derived.Test.YtceajigggcihnaaPFnPiecesx5
import Derived.Test.YtceajigggcihnaaPFnPiecesx7
import Derived.Test.YtceajigggcihnaaPFnPiecesx9
import Derived.Test.YtceajigggcihnaaPFnPiecesx11
import Derived.Test.YtceajigggcihnaaPFnPiecesx12
import Derived.Test.YtceajigggcihnaaPFnPiecesx15
import Derived.Test.YtceajigggcihnaaVFnPieces
namespace Go.Proofs.Ytceajigggcihnaa.PFnPieces
open Go.RowKit Go.Proofs.YtceajigggcihnaaW.PrintWords Go.Proofs.YtceajigggcihnaaW.PrintLast Go.Proofs.YtceajigggcihnaaW.PrintMore
attribute [local go_sem] max2_int min2_int max_two min_two max_three min_three max_four min_four   -- for this text's walks alone
set_option linter.unusedVariables false
set_option linter.unusedSimpArgs false

attribute [local go_sem high] eqA29
/-! ### laws_FnPieces: function 9 -/
mutual
def laws_FnPieces.j0 : Nat → List Int → List (S29) → Bool → List (S29) → Int → Bool → Int → Int → Int → Bool → Bool → Int → Int → Int → Int → Int → Int → List Int → List Int → List Int → Int → Int → Int → Int → Int → Int → Option (Bool)
 | 0, _, _, _, _, _, _, _, _, _, _, _, _, _, _, _, _, _, _, _, _, _, _, _, _, _, _ => none
 | k + 1, x6, x7, x8, x9, x14, x18, x19, x20, x23, x25, x152, x559000, x559001, x559002, x595000, x595001, x595002, x595003, x595004, x595005, x600000, x600001, x600002, x605000, x605001, x605002 => if x152 = true then (some false) else (if x18 = true then (if (wrap64 (2 * (wrap64 ((wrap64 (x14 * x20)) - x19)))) ≥ x20 then (laws_FnPieces.j1 k x6 x7 x8 x9 x23 x25 true x559000 x559001 x559002 x595000 x595001 x595002 x595003 x595004 x595005 x600000 x600001 x600002 x605000 x605001 x605002) else (laws_FnPieces.j1 k x6 x7 x8 x9 x23 x25 (decide ((wrap64 (2 * (wrap64 (x19 - (wrap64 (x14 * x20)))))) > x20)) x559000 x559001 x559002 x595000 x595001 x595002 x595003 x595004 x595005 x600000 x600001 x600002 x605000 x605001 x605002)) else (laws_FnPieces.j1 k x6 x7 x8 x9 x23 x25 false x559000 x559001 x559002 x595000 x595001 x595002 x595003 x595004 x595005 x600000 x600001 x600002 x605000 x605001 x605002))
def laws_FnPieces.j1 : Nat → List Int → List (S29) → Bool → List (S29) → Int → Bool → Bool → Int → Int → Int → Int → Int → Int → List Int → List Int → List Int → Int → Int → Int → Int → Int → Int → Option (Bool)
 | 0, _, _, _, _, _, _, _, _, _, _, _, _, _, _, _, _, _, _, _, _, _, _ => none
 | k + 1, x6, x7, x8, x9, x23, x25, x173, x559000, x559001, x559002, x595000, x595001, x595002, x595003, x595004, x595005, x600000, x600001, x600002, x605000, x605001, x605002 => if x173 = true then (some false) else (if x25 = true then ((impl_MetalOf.f k x595000 x595001 x595002 x595003 x595004 x595005 x23).bind fun bt608 => ((impl_RoundedGrade.f x600000 x600001 x600002).bind fun bt610 => (if bt608.2 = true then (if bt608.1 = x605001 then (if bt610.2 = true then (if x605000 > 0 then (if 0 ≤ x23 then (if x23 < (x595004.length : Int) then (if bt610.1 = (rd x595004 x23) then (laws_FnPieces.j2 k x6 x7 x8 x9 x559000 x559001 x559002) else (some false)) else (none)) else (none)) else (laws_FnPieces.j2 k x6 x7 x8 x9 x559000 x559001 x559002)) else (some false)) else (some false)) else (some false)))) else (laws_FnPieces.j2 k x6 x7 x8 x9 x559000 x559001 x559002))
def laws_FnPieces.j2 : Nat → List Int → List (S29) → Bool → List (S29) → Int → Int → Int → Option (Bool)
 | 0, _, _, _, _, _, _, _ => none
 | k + 1, x6, x7, x8, x9, x559000, x559001, x559002 => if x8 = true then (laws_FnPieces.l0 k x6 x7 x9 0 0 x9 (x9.length : Int) 0 x559000 x559001 x559002) else (some true)
def laws_FnPieces.l0 : Nat → List Int → List (S29) → List (S29) → Int → Int → List (S29) → Int → Int → Int → Int → Int → Option (Bool)
 | 0, _, _, _, _, _, _, _, _, _, _, _ => none
 | k + 1, x6, x7, x9, x32, x33, x214, x215, x216, x559000, x559001, x559002 => if x216 < x215 then (if 0 ≤ x216 then (if x216 < (x214.length : Int) then ((impl_IsPiece.f ((rd_T29 x214 x216).f0) ((rd_T29 x214 x216).f1) ((rd_T29 x214 x216).f2)).bind fun t615 => (if t615 = true then (laws_FnPieces.l0 k x6 x7 x9 (wrap64 (x32 + ((rd_T29 x214 x216).f0))) (wrap64 (x33 + ((rd_T29 x214 x216).f1))) x214 x215 (wrap64 (x216 + 1)) x559000 x559001 x559002) else (some false))) else (none)) else (none)) else ((impl_JoinPieces.f k x7).bind fun bt616 => (if x32 = x559000 then (if x33 = x559001 then (if bt616.2.2.2 = true then (if (bt616.1 == x559000 && (bt616.2.1 == x559001 && (bt616.2.2.1 == x559002))) = true then (some ((x9.length : Int) == (x6.length : Int))) else (if x559000 = 0 then (some ((x9.length : Int) == (x6.length : Int))) else (some false))) else (some false)) else (some false)) else (some false)))
end
def laws_FnPieces.f (k : Nat) (l0 : List Int) (l1 : List Int) : Option (Bool) := if (wrap64 ((l0.length : Int) + (l1.length : Int))) > 1048576 then (some true) else ((spec_DrawSplitPiece.f k l0).bind fun bt552 => ((impl_SplitPiece.f k bt552.1 bt552.2.1 bt552.2.2.1 bt552.2.2.2).bind fun bt559 => ((spec_SplitPiece.f k bt552.1 bt552.2.1 bt552.2.2.1 bt552.2.2.2).bind fun bt563 => ((spec_DrawRoundedGrade.f k l1).bind fun bt567 => ((impl_RoundedGrade.f bt567.1 bt567.2.1 bt567.2.2).bind fun bt571 => ((spec_RoundedGrade.f bt567.1 bt567.2.1 bt567.2.2).bind fun bt573 => ((impl_PieceGrade.f k bt567.1 bt567.2.1 bt567.2.2).bind fun bt575 => ((spec_PieceGrade.f k bt567.1 bt567.2.1 bt567.2.2).bind fun bt578 => ((spec_DrawPieceOf.f k l1).bind fun bt581 => ((impl_PieceOf.f k bt581.1 bt581.2.1 bt581.2.2.1 bt581.2.2.2.1 bt581.2.2.2.2.1 bt581.2.2.2.2.2.1 bt581.2.2.2.2.2.2).bind fun bt595 => ((spec_PieceOf.f k bt581.1 bt581.2.1 bt581.2.2.1 bt581.2.2.2.1 bt581.2.2.2.2.1 bt581.2.2.2.2.2.1 bt581.2.2.2.2.2.2).bind fun bt600 => (if (bt559.2 != bt563.2) = true then (laws_FnPieces.j0 k bt552.2.2.2 bt559.1 bt559.2 bt563.1 bt573.1 bt575.2.2 bt578.1 bt578.2.1 bt581.2.2.2.2.2.2 bt595.2.2.2 true bt552.1 bt552.2.1 bt552.2.2.1 bt581.1 bt581.2.1 bt581.2.2.1 bt581.2.2.2.1 bt581.2.2.2.2.1 bt581.2.2.2.2.2.1 bt595.1 bt595.2.1 bt595.2.2.1 bt600.1 bt600.2.1 bt600.2.2.1) else ((laws_qPieces.f k bt559.1 bt563.1).bind fun t605 => (if t605 = true then (if (bt571.2 != bt573.2) = true then (laws_FnPieces.j0 k bt552.2.2.2 bt559.1 bt559.2 bt563.1 bt573.1 bt575.2.2 bt578.1 bt578.2.1 bt581.2.2.2.2.2.2 bt595.2.2.2 true bt552.1 bt552.2.1 bt552.2.2.1 bt581.1 bt581.2.1 bt581.2.2.1 bt581.2.2.2.1 bt581.2.2.2.2.1 bt581.2.2.2.2.2.1 bt595.1 bt595.2.1 bt595.2.2.1 bt600.1 bt600.2.1 bt600.2.2.1) else (if bt571.1 = bt573.1 then (if (bt575.2.2 != bt578.2.2) = true then (laws_FnPieces.j0 k bt552.2.2.2 bt559.1 bt559.2 bt563.1 bt573.1 bt575.2.2 bt578.1 bt578.2.1 bt581.2.2.2.2.2.2 bt595.2.2.2 true bt552.1 bt552.2.1 bt552.2.2.1 bt581.1 bt581.2.1 bt581.2.2.1 bt581.2.2.2.1 bt581.2.2.2.2.1 bt581.2.2.2.2.2.1 bt595.1 bt595.2.1 bt595.2.2.1 bt600.1 bt600.2.1 bt600.2.2.1) else (if bt575.1 = bt578.1 then (if bt575.2.1 = bt578.2.1 then (if (bt595.2.2.2 != bt600.2.2.2) = true then (laws_FnPieces.j0 k bt552.2.2.2 bt559.1 bt559.2 bt563.1 bt573.1 bt575.2.2 bt578.1 bt578.2.1 bt581.2.2.2.2.2.2 bt595.2.2.2 true bt552.1 bt552.2.1 bt552.2.2.1 bt581.1 bt581.2.1 bt581.2.2.1 bt581.2.2.2.1 bt581.2.2.2.2.1 bt581.2.2.2.2.2.1 bt595.1 bt595.2.1 bt595.2.2.1 bt600.1 bt600.2.1 bt600.2.2.1) else (if (!(bt595.1 == bt600.1) || (!(bt595.2.1 == bt600.2.1) || (!(bt595.2.2.1 == bt600.2.2.1)))) = true then (laws_FnPieces.j0 k bt552.2.2.2 bt559.1 bt559.2 bt563.1 bt573.1 bt575.2.2 bt578.1 bt578.2.1 bt581.2.2.2.2.2.2 bt595.2.2.2 true bt552.1 bt552.2.1 bt552.2.2.1 bt581.1 bt581.2.1 bt581.2.2.1 bt581.2.2.2.1 bt581.2.2.2.2.1 bt581.2.2.2.2.2.1 bt595.1 bt595.2.1 bt595.2.2.1 bt600.1 bt600.2.1 bt600.2.2.1) else ((impl_IsPiece.f bt567.1 bt567.2.1 bt567.2.2).bind fun t606 => ((spec_IsPiece.f bt567.1 bt567.2.1 bt567.2.2).bind fun t607 => (laws_FnPieces.j0 k bt552.2.2.2 bt559.1 bt559.2 bt563.1 bt573.1 bt575.2.2 bt578.1 bt578.2.1 bt581.2.2.2.2.2.2 bt595.2.2.2 (t606 != t607) bt552.1 bt552.2.1 bt552.2.2.1 bt581.1 bt581.2.1 bt581.2.2.1 bt581.2.2.2.1 bt581.2.2.2.2.1 bt581.2.2.2.2.2.1 bt595.1 bt595.2.1 bt595.2.2.1 bt600.1 bt600.2.1 bt600.2.2.1))))) else (laws_FnPieces.j0 k bt552.2.2.2 bt559.1 bt559.2 bt563.1 bt573.1 bt575.2.2 bt578.1 bt578.2.1 bt581.2.2.2.2.2.2 bt595.2.2.2 true bt552.1 bt552.2.1 bt552.2.2.1 bt581.1 bt581.2.1 bt581.2.2.1 bt581.2.2.2.1 bt581.2.2.2.2.1 bt581.2.2.2.2.2.1 bt595.1 bt595.2.1 bt595.2.2.1 bt600.1 bt600.2.1 bt600.2.2.1)) else (laws_FnPieces.j0 k bt552.2.2.2 bt559.1 bt559.2 bt563.1 bt573.1 bt575.2.2 bt578.1 bt578.2.1 bt581.2.2.2.2.2.2 bt595.2.2.2 true bt552.1 bt552.2.1 bt552.2.2.1 bt581.1 bt581.2.1 bt581.2.2.1 bt581.2.2.2.1 bt581.2.2.2.2.1 bt581.2.2.2.2.2.1 bt595.1 bt595.2.1 bt595.2.2.1 bt600.1 bt600.2.1 bt600.2.2.1))) else (laws_FnPieces.j0 k bt552.2.2.2 bt559.1 bt559.2 bt563.1 bt573.1 bt575.2.2 bt578.1 bt578.2.1 bt581.2.2.2.2.2.2 bt595.2.2.2 true bt552.1 bt552.2.1 bt552.2.2.1 bt581.1 bt581.2.1 bt581.2.2.1 bt581.2.2.2.1 bt581.2.2.2.2.1 bt581.2.2.2.2.2.1 bt595.1 bt595.2.1 bt595.2.2.1 bt600.1 bt600.2.1 bt600.2.2.1))) else (laws_FnPieces.j0 k bt552.2.2.2 bt559.1 bt559.2 bt563.1 bt573.1 bt575.2.2 bt578.1 bt578.2.1 bt581.2.2.2.2.2.2 bt595.2.2.2 true bt552.1 bt552.2.1 bt552.2.2.1 bt581.1 bt581.2.1 bt581.2.2.1 bt581.2.2.2.1 bt581.2.2.2.2.1 bt581.2.2.2.2.2.1 bt595.1 bt595.2.1 bt595.2.2.1 bt600.1 bt600.2.1 bt600.2.2.1)))))))))))))))
def laws_FnPieces.T14 : Bool × List (List Nat × List Nat) := (true, [([], []), ([], []), ([0, 1], [0, 1]), ([2], [2]), ([3], [3]), ([3], [3]), ([4, 5, 3, 3], [3, 4, 5]), ([6, 3], [3, 6]), ([3, 7], [3, 7]), ([8, 6], [8]), ([9], [9]), ([9], [9]), ([10, 11, 9], [9, 10, 11]), ([9, 12], [9, 12]), ([13, 9], [13]), ([14], [14]), ([14], [14]), ([15, 16, 14], [14, 15, 16]), ([14, 17], [14, 17]), ([18, 14], [18]), ([19], [19]), ([19], [19]), ([20, 21, 19], [19, 20, 21]), ([19, 22], [19, 22]), ([23, 19], [23]), ([24], [24]), ([24], [24]), ([25, 26, 24], [24, 25, 26]), ([24, 27], [24, 27]), ([28, 24], [28]), ([29], [29]), ([29], [29]), ([30, 31, 29], [29, 30, 31]), ([29, 32], [29, 32]), ([33, 29], [33]), ([34], [34]), ([34], [34]), ([35, 36, 34], [34, 35, 36]), ([34, 37], [34, 37]), ([38, 34], [38]), ([39], [39]), ([39], [39]), ([40, 41, 39], [39, 40, 41]), ([39, 42], [39, 42]), ([43, 39], [43]), ([44], [44]), ([45, 44, 44], [44, 45]), ([44], [44]), ([47, 46, 44], [44, 47]), ([46, 48, 44], [44, 46, 48]), ([44, 49], [44, 49])])
def laws_FnPieces.B14 : List Nat := [0, 0, 3, 7, 15, 15, 63, 127, 255, 511, 1023, 1023, 4095, 8191, 16383, 32767, 32767, 131071, 262143, 524287, 1048575, 1048575, 4194303, 8388607, 16777215, 33554431, 33554431, 134217727, 268435455, 536870911, 1073741823, 1073741823, 4294967295, 8589934591, 17179869183, 34359738367, 34359738367, 137438953471, 274877906943, 549755813887, 1099511627775, 1099511627775, 4398046511103, 8796093022207, 17592186044415, 35184372088831, 70368744177663, 35184372088831, 281474976710655, 562949953421311, 1125899906842623]
theorem laws_FnPieces.tab14 : rtab .any (opsOf Try.f9 14) = laws_FnPieces.T14 := by kernel_rfl
theorem laws_FnPieces.bits14 : waitsOk laws_FnPieces.T14.2 laws_FnPieces.B14 = true := by kernel_rfl
set_option maxHeartbeats 8000000 in
set_option maxRecDepth 100000 in
def laws_FnPieces.top1 : {R : Prop // R → (∀ (k : Nat) (A0 : Option Addr) (c0 : Nat) (l0 : List Int) (A1 : Option Addr) (c1 : Nat) (l1 : List Int) (r : Bool) (w : World) (hr0 : Kd.C (Kd.int .u8) w A0 l0.length l0) (hc0 : l0.length ≤ c0) (hr1 : Kd.C (Kd.int .u8) w A1 l1.length l1) (hc1 : l1.length ≤ c1) (h : laws_FnPieces.f k l0 l1 = some r), Calls Try.prog 9 #[.slice A0 l0.length c0, .slice A1 l1.length c1] w fun e w' => e = .returned (.bool r) ∧ Below w.heap.size w w')} := ⟨_, fun hR_ => by
 intro k A0 c0 l0 A1 c1 l1 r w hr0 hc0 hr1 hc1 h
 have hu29 := Try.underlying29
 have hu34 := Try.underlying34
 have HR0 := Aside0.mk hr0
 have HC0 := Aside0.mk hc0
 clear hr0 hc0
 have HR1 := Aside0.mk hr1
 have HC1 := Aside0.mk hc1
 clear hr1 hc1
 have HB := Aside0.mk (Below.refl w.heap.size w)
 have H : (if (wrap64 ((l0.length : Int) + (l1.length : Int))) > 1048576 then (some true) else ((spec_DrawSplitPiece.f k l0).bind fun bt552 => ((impl_SplitPiece.f k bt552.1 bt552.2.1 bt552.2.2.1 bt552.2.2.2).bind fun bt559 => ((spec_SplitPiece.f k bt552.1 bt552.2.1 bt552.2.2.1 bt552.2.2.2).bind fun bt563 => ((spec_DrawRoundedGrade.f k l1).bind fun bt567 => ((impl_RoundedGrade.f bt567.1 bt567.2.1 bt567.2.2).bind fun bt571 => ((spec_RoundedGrade.f bt567.1 bt567.2.1 bt567.2.2).bind fun bt573 => ((impl_PieceGrade.f k bt567.1 bt567.2.1 bt567.2.2).bind fun bt575 => ((spec_PieceGrade.f k bt567.1 bt567.2.1 bt567.2.2).bind fun bt578 => ((spec_DrawPieceOf.f k l1).bind fun bt581 => ((impl_PieceOf.f k bt581.1 bt581.2.1 bt581.2.2.1 bt581.2.2.2.1 bt581.2.2.2.2.1 bt581.2.2.2.2.2.1 bt581.2.2.2.2.2.2).bind fun bt595 => ((spec_PieceOf.f k bt581.1 bt581.2.1 bt581.2.2.1 bt581.2.2.2.1 bt581.2.2.2.2.1 bt581.2.2.2.2.2.1 bt581.2.2.2.2.2.2).bind fun bt600 => (if (bt559.2 != bt563.2) = true then (laws_FnPieces.j0 k bt552.2.2.2 bt559.1 bt559.2 bt563.1 bt573.1 bt575.2.2 bt578.1 bt578.2.1 bt581.2.2.2.2.2.2 bt595.2.2.2 true bt552.1 bt552.2.1 bt552.2.2.1 bt581.1 bt581.2.1 bt581.2.2.1 bt581.2.2.2.1 bt581.2.2.2.2.1 bt581.2.2.2.2.2.1 bt595.1 bt595.2.1 bt595.2.2.1 bt600.1 bt600.2.1 bt600.2.2.1) else ((laws_qPieces.f k bt559.1 bt563.1).bind fun t605 => (if t605 = true then (if (bt571.2 != bt573.2) = true then (laws_FnPieces.j0 k bt552.2.2.2 bt559.1 bt559.2 bt563.1 bt573.1 bt575.2.2 bt578.1 bt578.2.1 bt581.2.2.2.2.2.2 bt595.2.2.2 true bt552.1 bt552.2.1 bt552.2.2.1 bt581.1 bt581.2.1 bt581.2.2.1 bt581.2.2.2.1 bt581.2.2.2.2.1 bt581.2.2.2.2.2.1 bt595.1 bt595.2.1 bt595.2.2.1 bt600.1 bt600.2.1 bt600.2.2.1) else (if bt571.1 = bt573.1 then (if (bt575.2.2 != bt578.2.2) = true then (laws_FnPieces.j0 k bt552.2.2.2 bt559.1 bt559.2 bt563.1 bt573.1 bt575.2.2 bt578.1 bt578.2.1 bt581.2.2.2.2.2.2 bt595.2.2.2 true bt552.1 bt552.2.1 bt552.2.2.1 bt581.1 bt581.2.1 bt581.2.2.1 bt581.2.2.2.1 bt581.2.2.2.2.1 bt581.2.2.2.2.2.1 bt595.1 bt595.2.1 bt595.2.2.1 bt600.1 bt600.2.1 bt600.2.2.1) else (if bt575.1 = bt578.1 then (if bt575.2.1 = bt578.2.1 then (if (bt595.2.2.2 != bt600.2.2.2) = true then (laws_FnPieces.j0 k bt552.2.2.2 bt559.1 bt559.2 bt563.1 bt573.1 bt575.2.2 bt578.1 bt578.2.1 bt581.2.2.2.2.2.2 bt595.2.2.2 true bt552.1 bt552.2.1 bt552.2.2.1 bt581.1 bt581.2.1 bt581.2.2.1 bt581.2.2.2.1 bt581.2.2.2.2.1 bt581.2.2.2.2.2.1 bt595.1 bt595.2.1 bt595.2.2.1 bt600.1 bt600.2.1 bt600.2.2.1) else (if (!(bt595.1 == bt600.1) || (!(bt595.2.1 == bt600.2.1) || (!(bt595.2.2.1 == bt600.2.2.1)))) = true then (laws_FnPieces.j0 k bt552.2.2.2 bt559.1 bt559.2 bt563.1 bt573.1 bt575.2.2 bt578.1 bt578.2.1 bt581.2.2.2.2.2.2 bt595.2.2.2 true bt552.1 bt552.2.1 bt552.2.2.1 bt581.1 bt581.2.1 bt581.2.2.1 bt581.2.2.2.1 bt581.2.2.2.2.1 bt581.2.2.2.2.2.1 bt595.1 bt595.2.1 bt595.2.2.1 bt600.1 bt600.2.1 bt600.2.2.1) else ((impl_IsPiece.f bt567.1 bt567.2.1 bt567.2.2).bind fun t606 => ((spec_IsPiece.f bt567.1 bt567.2.1 bt567.2.2).bind fun t607 => (laws_FnPieces.j0 k bt552.2.2.2 bt559.1 bt559.2 bt563.1 bt573.1 bt575.2.2 bt578.1 bt578.2.1 bt581.2.2.2.2.2.2 bt595.2.2.2 (t606 != t607) bt552.1 bt552.2.1 bt552.2.2.1 bt581.1 bt581.2.1 bt581.2.2.1 bt581.2.2.2.1 bt581.2.2.2.2.1 bt581.2.2.2.2.2.1 bt595.1 bt595.2.1 bt595.2.2.1 bt600.1 bt600.2.1 bt600.2.2.1))))) else (laws_FnPieces.j0 k bt552.2.2.2 bt559.1 bt559.2 bt563.1 bt573.1 bt575.2.2 bt578.1 bt578.2.1 bt581.2.2.2.2.2.2 bt595.2.2.2 true bt552.1 bt552.2.1 bt552.2.2.1 bt581.1 bt581.2.1 bt581.2.2.1 bt581.2.2.2.1 bt581.2.2.2.2.1 bt581.2.2.2.2.2.1 bt595.1 bt595.2.1 bt595.2.2.1 bt600.1 bt600.2.1 bt600.2.2.1)) else (laws_FnPieces.j0 k bt552.2.2.2 bt559.1 bt559.2 bt563.1 bt573.1 bt575.2.2 bt578.1 bt578.2.1 bt581.2.2.2.2.2.2 bt595.2.2.2 true bt552.1 bt552.2.1 bt552.2.2.1 bt581.1 bt581.2.1 bt581.2.2.1 bt581.2.2.2.1 bt581.2.2.2.2.1 bt581.2.2.2.2.2.1 bt595.1 bt595.2.1 bt595.2.2.1 bt600.1 bt600.2.1 bt600.2.2.1))) else (laws_FnPieces.j0 k bt552.2.2.2 bt559.1 bt559.2 bt563.1 bt573.1 bt575.2.2 bt578.1 bt578.2.1 bt581.2.2.2.2.2.2 bt595.2.2.2 true bt552.1 bt552.2.1 bt552.2.2.1 bt581.1 bt581.2.1 bt581.2.2.1 bt581.2.2.2.1 bt581.2.2.2.2.1 bt581.2.2.2.2.2.1 bt595.1 bt595.2.1 bt595.2.2.1 bt600.1 bt600.2.1 bt600.2.2.1))) else (laws_FnPieces.j0 k bt552.2.2.2 bt559.1 bt559.2 bt563.1 bt573.1 bt575.2.2 bt578.1 bt578.2.1 bt581.2.2.2.2.2.2 bt595.2.2.2 true bt552.1 bt552.2.1 bt552.2.2.1 bt581.1 bt581.2.1 bt581.2.2.1 bt581.2.2.2.1 bt581.2.2.2.2.1 bt581.2.2.2.2.2.1 bt595.1 bt595.2.1 bt595.2.2.1 bt600.1 bt600.2.1 bt600.2.2.1)))))))))))))))) = some r := h
 clear h
 by_cases c3 : (wrap64 ((l0.length : Int) + (l1.length : Int))) > 1048576
 ·rw [if_pos c3] at H
  have c3b0 : decide (1048576 < (wrap64 ((l0.length : Int) + (l1.length : Int)))) = true := decide_eq_true c3
  clear c3
  obtain rfl := Option.some.inj H
  go_enter Try.func9, Try.ntmps9
  go_wp2
  go_ret
  exact ⟨by first | rfl | (simp [errW_none, errW_some] <;> rfl) | (simp [*, errW_none, errW_some] <;> rfl), hb_ HB⟩
 ·rw [if_neg c3] at H
  have c3b0 : decide (1048576 < (wrap64 ((l0.length : Int) + (l1.length : Int)))) = false := decide_eq_false c3
  clear c3
  replace H := Option.bind_eq_some_iff.mp H
  obtain ⟨⟨t552, t553, t554, t555⟩, A40, H⟩ := H
  try dsimp only at H
  have A4 := Aside0.mk A40
  clear A40
  replace H := Option.bind_eq_some_iff.mp H
  obtain ⟨⟨t559, t562⟩, A50, H⟩ := H
  try dsimp only at H
  have A5 := Aside0.mk A50
  clear A50
  replace H := Option.bind_eq_some_iff.mp H
  obtain ⟨⟨t563, t566⟩, A60, H⟩ := H
  try dsimp only at H
  have A6 := Aside0.mk A60
  clear A60
  replace H := Option.bind_eq_some_iff.mp H
  obtain ⟨⟨t567, t568, t569⟩, A70, H⟩ := H
  try dsimp only at H
  have A7 := Aside0.mk A70
  clear A70
  replace H := Option.bind_eq_some_iff.mp H
  obtain ⟨⟨t571, t572⟩, A80, H⟩ := H
  try dsimp only at H
  have A8 := Aside0.mk A80
  clear A80
  replace H := Option.bind_eq_some_iff.mp H
  obtain ⟨⟨t573, t574⟩, A90, H⟩ := H
  try dsimp only at H
  have A9 := Aside0.mk A90
  clear A90
  replace H := Option.bind_eq_some_iff.mp H
  obtain ⟨⟨t575, t576, t577⟩, A100, H⟩ := H
  try dsimp only at H
  have A10 := Aside0.mk A100
  clear A100
  replace H := Option.bind_eq_some_iff.mp H
  obtain ⟨⟨t578, t579, t580⟩, A110, H⟩ := H
  try dsimp only at H
  have A11 := Aside0.mk A110
  clear A110
  replace H := Option.bind_eq_some_iff.mp H
  obtain ⟨⟨t581, t582, t583, t584, t587, t590, t593⟩, A120, H⟩ := H
  try dsimp only at H
  have A12 := Aside0.mk A120
  clear A120
  replace H := Option.bind_eq_some_iff.mp H
  obtain ⟨⟨t595, t596, t597, t598⟩, A130, H⟩ := H
  try dsimp only at H
  have A13 := Aside0.mk A130
  clear A130
  replace H := Option.bind_eq_some_iff.mp H
  obtain ⟨⟨t600, t601, t602, t603⟩, A140, H⟩ := H
  try dsimp only at H
  have A14 := Aside0.mk A140
  clear A140
  have HC15 := Aside0.mk H
  clear H
  go_enter Try.func9, Try.ntmps9
  go_upto_region 14 with (first | ((with_reducible refine gate_callee (f := 39) rfl ?_); refine gl_ (some 46) Try.func39 #[.slice A0 l0.length c0] rfl rfl rfl ?_; (with_reducible refine (spec_DrawSplitPiece.calls k _ _ l0 t552 t553 t554 t555 _ ?side1 ?side2 A4.out).mono ?_); (case side1 => repeat (first | exact HR0.out | (with_reducible refine Kd.C_alloc ?_ _) | (with_reducible refine Kd.C_drewN ?_ _) | (with_reducible refine Kd.C_drew ?_))); (case side2 => exact HC0.out); rintro e w16 ⟨v556, rfl, ho0, hb⟩; refine ⟨_, rfl, ?_⟩; have HO557 := Kd.R_lo ho0 HB; replace HB := hbs_ HB hb; (try clear hb); (try clear hb2); (try clear hk); (try clear hi); (try clear ho0)) | ((with_reducible refine gate_dst (N := 5) rfl ?_); (try (refine gate_guard (by rfl) ?_; dsimp only)); refine box_event ?hg (N := 5) ?hd (cs := #[.int .i64 0, .int .i64 0, .int .i64 0]) (t := 29) ?hr ?_; (case hd => rfl); (case hg => rfl); (case hr => first | (go_simp; done) | (go_simp; rfl)); intro gb558 hg w17 hbox hb; have BK558 := Aside0.mk (hbox); have GW558 := gs_ hg HB; have GE558 := gs_ hg HB; replace HO557 := Kd.R_b HO557 hb; replace HB := hbs_ HB hb; clear hb hbox hg; obtain ⟨hcz18_0, hcz18_1, hcz18_2, hfz18_0, hfz18_1, hfz18_2⟩ := bx3 BK558; obtain ⟨Ao19, co19, eo19⟩ := Kd.R_slice HO557.out; subst eo19) | ((with_reducible refine gate_callee (f := 25) rfl ?_); refine gl_ (some 52) Try.func25 #[.agg #[.int .i64 t552, .int .i64 t553, .int .i64 t554], .slice Ao19 t555.length co19] rfl rfl rfl ?_; (with_reducible refine (impl_SplitPiece.calls k t552 t553 t554 _ _ t555 t559 t562 _ ?side1 ?side2 A5.out).mono ?_); (case side1 => exact (Kd.R_reads' (Kd.R_s HO557 BK558)).2.2); (case side2 => exact (Kd.R_reads' HO557.out).2.1); rintro e w20 ⟨v560, rfl, ho0, hb⟩; refine ⟨_, rfl, ?_⟩; have HO561 := Kd.R_lo (Kd.R_newB ho0 (g := gb558) (o := .cells #[.int .i64 t552, .int .i64 t553, .int .i64 t554] 29 (0, 0)) (kpq_ (kputs BK558 [(0, _), (1, _), (2, _)]))) HB; replace HO557 := Kd.R_sb HO557 BK558 hb; replace HB := hbs_ HB hb; replace BK558 := Aside0.mk (blk_below (g := gb558) (o := .cells #[.int .i64 t552, .int .i64 t553, .int .i64 t554] 29 (0, 0)) (kpq_ (kputs BK558 [(0, _), (1, _), (2, _)])) hb); (try clear hb); (try clear hb2); (try clear hk); (try clear hi); (try clear ho0); obtain ⟨hcz21_0, hcz21_1, hcz21_2, hfz21_0, hfz21_1, hfz21_2⟩ := bx3 BK558) | ((with_reducible refine gate_callee (f := 22) rfl ?_); refine gl_ (some 58) Try.func22 #[.agg #[.int .i64 t552, .int .i64 t553, .int .i64 t554], .slice Ao19 t555.length co19] rfl rfl rfl ?_; (with_reducible refine (spec_SplitPiece.calls k t552 t553 t554 _ _ t555 t563 t566 _ ?side1 ?side2 A6.out).mono ?_); (case side1 => exact Kd.C_o HO557); (case side2 => exact (Kd.R_reads' HO557.out).2.1); rintro e w22 ⟨v564, rfl, ho0, hb⟩; refine ⟨_, rfl, ?_⟩; have HO565 := Kd.R_lo (Kd.R_newB (Kd.R_nw ho0 HO561) (g := gb558) (o := .cells #[.int .i64 t552, .int .i64 t553, .int .i64 t554] 29 (0, 0)) (kp_ BK558)) HB; replace HO557 := Kd.R_b HO557 hb; replace HO561 := Kd.R_e HO561 ho0 hb; replace BK558 := kb_ BK558 hb; replace HB := hbs_ HB hb; (try clear hb); (try clear hb2); (try clear hk); (try clear hi); (try clear ho0)) | ((with_reducible refine gate_callee (f := 40) rfl ?_); refine gl_ (some 62) Try.func40 #[.slice A1 l1.length c1] rfl rfl rfl ?_; (with_reducible refine (spec_DrawRoundedGrade.calls k _ _ l1 t567 t568 t569 _ ?side1 ?side2 A7.out).mono ?_); (case side1 => exact Kd.C_w HR1 HB); (case side2 => exact HC1.out); rintro e w23 ⟨rfl, hb⟩; refine ⟨_, rfl, ?_⟩; replace HO557 := Kd.R_b HO557 hb; replace HO561 := Kd.R_b HO561 hb; replace HO565 := Kd.R_b HO565 hb; replace BK558 := kb_ BK558 hb; replace HB := hbs_ HB hb; (try clear hb); (try clear hb2); (try clear hk); (try clear hi)) | ((with_reducible refine gate_dst (N := 11) rfl ?_); (try (refine gate_guard (by rfl) ?_; dsimp only)); refine box_event ?hg (N := 11) ?hd (cs := #[.int .i64 0, .int .i64 0, .int .i64 0]) (t := 29) ?hr ?_; (case hd => rfl); (case hg => rfl); (case hr => first | (go_simp; done) | (go_simp; rfl)); intro gb570 hg w24 hbox hb; have BK570 := Aside0.mk (hbox); have GW570 := gs_ hg HB; have GE570 := gs_ hg HB; have NB558_570 := nl_ hg BK558; have NB570_558 := ng_ hg BK558; replace HO557 := Kd.R_b HO557 hb; replace HO561 := Aside0.mk (Kd.R_below (Kd.R_elderB (Kd.R_p HO561) gb570 (Nat.le_of_eq hg.symm)) hb); replace HO565 := Aside0.mk (Kd.R_below (Kd.R_elderB (Kd.R_p HO565) gb570 (Nat.le_of_eq hg.symm)) hb); replace BK558 := kb_ BK558 hb; replace HB := hbs_ HB hb; clear hb hbox hg; have hnb25 := NB570_558.out; have hnc25 := NB558_570.out; obtain ⟨hcz26_0, hcz26_1, hcz26_2, hfz26_0, hfz26_1, hfz26_2⟩ := bx3 BK570) | ((with_reducible refine gate_callee (f := 41) rfl ?_); refine gl_ (some 65) Try.func41 #[.agg #[.int .i64 t567, .int .i64 t568, .int .i64 t569]] rfl rfl rfl ?_; (with_reducible refine (impl_RoundedGrade.calls t567 t568 t569 t571 t572 _ A8.out).mono ?_); rintro e w27 ⟨rfl, hb⟩; refine ⟨_, rfl, ?_⟩; replace HO557 := Kd.R_sb HO557 BK570 hb; replace HO561 := Aside0.mk (Kd.R_below (Kd.R_pp ((Kd.R_mono (Kd.R_far (p := ⟨gb570, 2, none⟩) (Kd.R_far (p := ⟨gb570, 1, none⟩) (Kd.R_far (p := ⟨gb570, 0, none⟩) (Kd.R_mono HO561.out (fun k_ hk => (⟨hk, hk.2⟩ : _ ∧ k_ ≠ gb570))) (fun _ hk => hk.2) (.int .i64 t567)) (fun _ hk => hk.2) (.int .i64 t568)) (fun _ hk => hk.2) (.int .i64 t569)) (fun _ h_ => h_.1)))) hb); replace HO565 := Aside0.mk (Kd.R_below (Kd.R_pp ((Kd.R_mono (Kd.R_far (p := ⟨gb570, 2, none⟩) (Kd.R_far (p := ⟨gb570, 1, none⟩) (Kd.R_far (p := ⟨gb570, 0, none⟩) (Kd.R_mono HO565.out (fun k_ hk => (⟨hk, hk.2⟩ : _ ∧ k_ ≠ gb570))) (fun _ hk => hk.2) (.int .i64 t567)) (fun _ hk => hk.2) (.int .i64 t568)) (fun _ hk => hk.2) (.int .i64 t569)) (fun _ h_ => h_.1)))) hb); replace BK558 := kfb_ BK558 NB558_570 hb; replace HB := hbs_ HB hb; replace BK570 := Aside0.mk (blk_below (g := gb570) (o := .cells #[.int .i64 t567, .int .i64 t568, .int .i64 t569] 29 (0, 0)) (kpq_ (kputs BK570 [(0, _), (1, _), (2, _)])) hb); (try clear hb); (try clear hb2); (try clear hk); (try clear hi); obtain ⟨hcz28_0, hcz28_1, hcz28_2, hfz28_0, hfz28_1, hfz28_2⟩ := bx3 BK570) | ((with_reducible refine gate_callee (f := 42) rfl ?_); refine gl_ (some 70) Try.func42 #[.agg #[.int .i64 t567, .int .i64 t568, .int .i64 t569]] rfl rfl rfl ?_; (with_reducible refine (spec_RoundedGrade.calls t567 t568 t569 t573 t574 _ A9.out).mono ?_); rintro e w29 ⟨rfl, hb⟩; refine ⟨_, rfl, ?_⟩; replace HO557 := Kd.R_b HO557 hb; replace HO561 := Kd.R_b HO561 hb; replace HO565 := Kd.R_b HO565 hb; replace BK558 := kb_ BK558 hb; replace BK570 := kb_ BK570 hb; replace HB := hbs_ HB hb; (try clear hb); (try clear hb2); (try clear hk); (try clear hi); obtain ⟨hcz30_0, hcz30_1, hcz30_2, hfz30_0, hfz30_1, hfz30_2⟩ := bx3 BK570) | ((with_reducible refine gate_callee (f := 43) rfl ?_); refine gl_ (some 75) Try.func43 #[.agg #[.int .i64 t567, .int .i64 t568, .int .i64 t569]] rfl rfl rfl ?_; (with_reducible refine (impl_PieceGrade.calls k t567 t568 t569 t575 t576 t577 _ A10.out).mono ?_); rintro e w31 ⟨rfl, hb⟩; refine ⟨_, rfl, ?_⟩; replace HO557 := Kd.R_b HO557 hb; replace HO561 := Kd.R_b HO561 hb; replace HO565 := Kd.R_b HO565 hb; replace BK558 := kb_ BK558 hb; replace BK570 := kb_ BK570 hb; replace HB := hbs_ HB hb; (try clear hb); (try clear hb2); (try clear hk); (try clear hi); obtain ⟨hcz32_0, hcz32_1, hcz32_2, hfz32_0, hfz32_1, hfz32_2⟩ := bx3 BK570) | ((with_reducible refine gate_callee (f := 44) rfl ?_); refine gl_ (some 81) Try.func44 #[.agg #[.int .i64 t567, .int .i64 t568, .int .i64 t569]] rfl rfl rfl ?_; (with_reducible refine (spec_PieceGrade.calls k t567 t568 t569 t578 t579 t580 _ A11.out).mono ?_); rintro e w33 ⟨rfl, hb⟩; refine ⟨_, rfl, ?_⟩; replace HO557 := Kd.R_b HO557 hb; replace HO561 := Kd.R_b HO561 hb; replace HO565 := Kd.R_b HO565 hb; replace BK558 := kb_ BK558 hb; replace BK570 := kb_ BK570 hb; replace HB := hbs_ HB hb; (try clear hb); (try clear hb2); (try clear hk); (try clear hi)) | ((with_reducible refine gate_callee (f := 45) rfl ?_); refine gl_ (some 87) Try.func45 #[.slice A1 l1.length c1] rfl rfl rfl ?_; (with_reducible refine (spec_DrawPieceOf.calls k _ _ l1 t581 t582 t583 t584 t587 t590 t593 _ ?side1 ?side2 A12.out).mono ?_); (case side1 => exact Kd.C_w HR1 HB); (case side2 => exact HC1.out); rintro e w34 ⟨v585, v588, v591, rfl, ho0, ho1, ho2, hb⟩; refine ⟨_, rfl, ?_⟩; have HO586 := Kd.R_lo (Kd.R_nw ho0 HO557) HB; have HO589 := Kd.R_lo (Kd.R_nw ho1 HO557) HB; have HO592 := Kd.R_lo (Kd.R_nw ho2 HO557) HB; replace HO557 := Kd.R_e3 HO557 ho0 ho1 ho2 hb; replace HO561 := Kd.R_b HO561 hb; replace HO565 := Kd.R_b HO565 hb; replace BK558 := kb_ BK558 hb; replace BK570 := kb_ BK570 hb; replace HB := hbs_ HB hb; (try clear hb); (try clear hb2); (try clear hk); (try clear hi); (try clear ho0); (try clear ho1); (try clear ho2)) | ((with_reducible refine gate_dst (N := 22) rfl ?_); (try (refine gate_guard (by rfl) ?_; dsimp only)); refine box_event ?hg (N := 22) ?hd (cs := #[.int .i64 0, .int .i64 0, .int .i64 0, .slice none 0 0, .slice none 0 0, .slice none 0 0]) (t := 34) ?hr ?_; (case hd => rfl); (case hg => rfl); (case hr => first | (go_simp; done) | (go_simp; rfl)); intro gb594 hg w35 hbox hb; have BK594 := Aside0.mk (hbox); have GW594 := gs_ hg HB; have GE594 := gs_ hg HB; have NB558_594 := nl_ hg BK558; have NB594_558 := ng_ hg BK558; have NB570_594 := nl_ hg BK570; have NB594_570 := ng_ hg BK570; replace HO557 := Kd.R_b HO557 hb; replace HO561 := Kd.R_b HO561 hb; replace HO565 := Kd.R_b HO565 hb; replace HO586 := Kd.R_b HO586 hb; replace HO589 := Kd.R_b HO589 hb; replace HO592 := Kd.R_b HO592 hb; replace BK558 := kb_ BK558 hb; replace BK570 := kb_ BK570 hb; replace HB := hbs_ HB hb; clear hb hbox hg; have hnb36 := NB594_558.out; have hnc36 := NB558_594.out; have hnb37 := NB594_570.out; have hnc37 := NB570_594.out; obtain ⟨hcz38_0, hcz38_1, hcz38_2, hcz38_3, hcz38_4, hcz38_5, hfz38_0, hfz38_1, hfz38_2, hfz38_3, hfz38_4, hfz38_5⟩ := bx6 BK594; obtain ⟨Ao39, co39, eo39⟩ := Kd.R_slice HO586.out; subst eo39; obtain ⟨Ao40, co40, eo40⟩ := Kd.R_slice HO589.out; subst eo40; obtain ⟨Ao41, co41, eo41⟩ := Kd.R_slice HO592.out; subst eo41) | ((with_reducible refine gate_callee (f := 14) rfl ?_); refine gl_ (some 93) Try.func14 #[.agg #[.int .i64 t581, .int .i64 t582, .int .i64 t583, .slice Ao39 t584.length co39, .slice Ao40 t587.length co40, .slice Ao41 t590.length co41], .int .i64 t593] rfl rfl rfl ?_; (with_reducible refine (impl_PieceOf.calls k t581 t582 t583 _ _ t584 _ _ t587 _ _ t590 t593 t595 t596 t597 t598 _ ?side1 ?side2 ?side3 ?side4 ?side5 ?side6 A13.out).mono ?_); (case side1 => exact (Kd.R_reads' (Kd.R_s HO586 BK594)).2.2); (case side2 => exact (Kd.R_reads' HO586.out).2.1); (case side3 => exact (Kd.R_reads' (Kd.R_s HO589 BK594)).2.2); (case side4 => exact (Kd.R_reads' HO589.out).2.1); (case side5 => exact (Kd.R_reads' (Kd.R_s HO592 BK594)).2.2); (case side6 => exact (Kd.R_reads' HO592.out).2.1); rintro e w42 ⟨rfl, hb⟩; refine ⟨_, rfl, ?_⟩; replace HO557 := Kd.R_sb HO557 BK594 hb; replace HO561 := Kd.R_sb HO561 BK594 hb; replace HO565 := Kd.R_sb HO565 BK594 hb; replace HO586 := Kd.R_sb HO586 BK594 hb; replace HO589 := Kd.R_sb HO589 BK594 hb; replace HO592 := Kd.R_sb HO592 BK594 hb; replace BK558 := kfb_ BK558 NB558_594 hb; replace BK570 := kfb_ BK570 NB570_594 hb; replace HB := hbs_ HB hb; replace BK594 := Aside0.mk (blk_below (g := gb594) (o := .cells #[.int .i64 t581, .int .i64 t582, .int .i64 t583, .slice Ao39 t584.length co39, .slice Ao40 t587.length co40, .slice Ao41 t590.length co41] 34 (0, 0)) (kpq_ (kputs BK594 [(0, _), (1, _), (2, _), (3, _), (4, _), (5, _)])) hb); (try clear hb); (try clear hb2); (try clear hk); (try clear hi)) | ((with_reducible refine gate_dst (N := 24) rfl ?_); (try (refine gate_guard (by rfl) ?_; dsimp only)); refine box_event ?hg (N := 24) ?hd (cs := #[.int .i64 0, .int .i64 0, .int .i64 0]) (t := 29) ?hr ?_; (case hd => rfl); (case hg => rfl); (case hr => first | (go_simp; done) | (go_simp; rfl)); intro gb599 hg w43 hbox hb; have BK599 := Aside0.mk (hbox); have GW599 := gs_ hg HB; have GE599 := gs_ hg HB; have NB558_599 := nl_ hg BK558; have NB599_558 := ng_ hg BK558; have NB570_599 := nl_ hg BK570; have NB599_570 := ng_ hg BK570; have NB594_599 := nl_ hg BK594; have NB599_594 := ng_ hg BK594; replace HO557 := Kd.R_b HO557 hb; replace HO561 := Aside0.mk (Kd.R_below (Kd.R_elderB (Kd.R_p HO561) gb599 (Nat.le_of_eq hg.symm)) hb); replace HO565 := Aside0.mk (Kd.R_below (Kd.R_elderB (Kd.R_p HO565) gb599 (Nat.le_of_eq hg.symm)) hb); replace HO586 := Kd.R_b HO586 hb; replace HO589 := Kd.R_b HO589 hb; replace HO592 := Kd.R_b HO592 hb; replace BK558 := kb_ BK558 hb; replace BK570 := kb_ BK570 hb; replace BK594 := kb_ BK594 hb; replace HB := hbs_ HB hb; clear hb hbox hg; have hnb44 := NB599_558.out; have hnc44 := NB558_599.out; have hnb45 := NB599_570.out; have hnc45 := NB570_599.out; have hnb46 := NB599_594.out; have hnc46 := NB594_599.out; obtain ⟨hcz47_0, hcz47_1, hcz47_2, hfz47_0, hfz47_1, hfz47_2⟩ := bx3 BK599; obtain ⟨hcz48_0, hcz48_1, hcz48_2, hcz48_3, hcz48_4, hcz48_5, hfz48_0, hfz48_1, hfz48_2, hfz48_3, hfz48_4, hfz48_5⟩ := bx6 BK594) | ((with_reducible refine gate_callee (f := 12) rfl ?_); refine gl_ (some 99) Try.func12 #[.agg #[.int .i64 t581, .int .i64 t582, .int .i64 t583, .slice Ao39 t584.length co39, .slice Ao40 t587.length co40, .slice Ao41 t590.length co41], .int .i64 t593] rfl rfl rfl ?_; (with_reducible refine (spec_PieceOf.calls k t581 t582 t583 _ _ t584 _ _ t587 _ _ t590 t593 t600 t601 t602 t603 _ ?side1 ?side2 ?side3 ?side4 ?side5 ?side6 A14.out).mono ?_); (case side1 => exact (Kd.R_reads' (Kd.R_s HO586 BK599)).2.2); (case side2 => exact (Kd.R_reads' HO586.out).2.1); (case side3 => exact (Kd.R_reads' (Kd.R_s HO589 BK599)).2.2); (case side4 => exact (Kd.R_reads' HO589.out).2.1); (case side5 => exact (Kd.R_reads' (Kd.R_s HO592 BK599)).2.2); (case side6 => exact (Kd.R_reads' HO592.out).2.1); rintro e w49 ⟨rfl, hb⟩; refine ⟨_, rfl, ?_⟩; replace HO557 := Kd.R_sb HO557 BK599 hb; replace HO561 := Aside0.mk (Kd.R_below (Kd.R_pp ((Kd.R_mono (Kd.R_far (p := ⟨gb599, 2, none⟩) (Kd.R_far (p := ⟨gb599, 1, none⟩) (Kd.R_far (p := ⟨gb599, 0, none⟩) (Kd.R_mono HO561.out (fun k_ hk => (⟨hk, hk.2⟩ : _ ∧ k_ ≠ gb599))) (fun _ hk => hk.2) (.int .i64 t595)) (fun _ hk => hk.2) (.int .i64 t596)) (fun _ hk => hk.2) (.int .i64 t597)) (fun _ h_ => h_.1)))) hb); replace HO565 := Aside0.mk (Kd.R_below (Kd.R_pp ((Kd.R_mono (Kd.R_far (p := ⟨gb599, 2, none⟩) (Kd.R_far (p := ⟨gb599, 1, none⟩) (Kd.R_far (p := ⟨gb599, 0, none⟩) (Kd.R_mono HO565.out (fun k_ hk => (⟨hk, hk.2⟩ : _ ∧ k_ ≠ gb599))) (fun _ hk => hk.2) (.int .i64 t595)) (fun _ hk => hk.2) (.int .i64 t596)) (fun _ hk => hk.2) (.int .i64 t597)) (fun _ h_ => h_.1)))) hb); replace HO586 := Kd.R_sb HO586 BK599 hb; replace HO589 := Kd.R_sb HO589 BK599 hb; replace HO592 := Kd.R_sb HO592 BK599 hb; replace BK558 := kfb_ BK558 NB558_599 hb; replace BK570 := kfb_ BK570 NB570_599 hb; replace BK594 := kfb_ BK594 NB594_599 hb; replace HB := hbs_ HB hb; replace BK599 := Aside0.mk (blk_below (g := gb599) (o := .cells #[.int .i64 t595, .int .i64 t596, .int .i64 t597] 29 (0, 0)) (kpq_ (kputs BK599 [(0, _), (1, _), (2, _)])) hb); (try clear hb); (try clear hb2); (try clear hk); (try clear hi)) | ((with_reducible refine gate_dst (N := 26) rfl ?_); (try (refine gate_guard (by rfl) ?_; dsimp only)); refine box_event ?hg (N := 26) ?hd (cs := #[.int .i64 0, .int .i64 0, .int .i64 0]) (t := 29) ?hr ?_; (case hd => rfl); (case hg => rfl); (case hr => first | (go_simp; done) | (go_simp; rfl)); intro gb604 hg w50 hbox hb; have BK604 := Aside0.mk (hbox); have GW604 := gs_ hg HB; have GE604 := gs_ hg HB; have NB558_604 := nl_ hg BK558; have NB604_558 := ng_ hg BK558; have NB570_604 := nl_ hg BK570; have NB604_570 := ng_ hg BK570; have NB594_604 := nl_ hg BK594; have NB604_594 := ng_ hg BK594; have NB599_604 := nl_ hg BK599; have NB604_599 := ng_ hg BK599; replace HO557 := Kd.R_b HO557 hb; replace HO561 := Aside0.mk (Kd.R_below (Kd.R_elderB (Kd.R_p HO561) gb604 (Nat.le_of_eq hg.symm)) hb); replace HO565 := Aside0.mk (Kd.R_below (Kd.R_elderB (Kd.R_p HO565) gb604 (Nat.le_of_eq hg.symm)) hb); replace HO586 := Kd.R_b HO586 hb; replace HO589 := Kd.R_b HO589 hb; replace HO592 := Kd.R_b HO592 hb; replace BK558 := kb_ BK558 hb; replace BK570 := kb_ BK570 hb; replace BK594 := kb_ BK594 hb; replace BK599 := kb_ BK599 hb; replace HB := hbs_ HB hb; clear hb hbox hg; have hnb51 := NB604_558.out; have hnc51 := NB558_604.out; have hnb52 := NB604_570.out; have hnc52 := NB570_604.out; have hnb53 := NB604_594.out; have hnc53 := NB594_604.out; have hnb54 := NB604_599.out; have hnc54 := NB599_604.out; obtain ⟨hcz55_0, hcz55_1, hcz55_2, hfz55_0, hfz55_1, hfz55_2⟩ := bx3 BK604))
  (try simp only [Act.put, List.setIfInBounds_toArray, List.set_cons_zero, List.set_cons_succ])
  go_cut [152] (fun v152 wc => ∃ (kq : Nat) (x152_14 : Bool), v152 = .bool x152_14 ∧ Aside0 (laws_FnPieces.j0 kq t555 t559 t562 t563 t573 t577 t578 t579 t593 t598 x152_14 t552 t553 t554 t581 t582 t583 t584 t587 t590 t595 t596 t597 t600 t601 t602 = some r) ∧ Aside0 (kq ≤ k) ∧ Aside0 (Kd.R (Kd.int .i64) 3 wc w.heap.size (fun k_ => some k_ ≠ ((.slice Ao39 t584.length co39) : Value).ownBlock ∧ some k_ ≠ ((.slice Ao40 t587.length co40) : Value).ownBlock ∧ some k_ ≠ ((.slice Ao41 t590.length co41) : Value).ownBlock) (.slice Ao19 t555.length co19) t555) ∧ Aside0 (Kd.R k29 29 wc w.heap.size (fun k_ => some k_ ≠ (v564 : Value).ownBlock ∧ k_ ≠ gb558 ∧ k_ ≠ gb599 ∧ k_ ≠ gb604) v560 t559) ∧ Aside0 (Kd.R k29 29 wc w.heap.size (fun k_ => some k_ ≠ (v560 : Value).ownBlock ∧ k_ ≠ gb558 ∧ k_ ≠ gb599 ∧ k_ ≠ gb604) v564 t563) ∧ Aside0 (Kd.R (Kd.int .i64) 3 wc w.heap.size (fun k_ => some k_ ≠ ((.slice Ao19 t555.length co19) : Value).ownBlock ∧ some k_ ≠ ((.slice Ao40 t587.length co40) : Value).ownBlock ∧ some k_ ≠ ((.slice Ao41 t590.length co41) : Value).ownBlock) (.slice Ao39 t584.length co39) t584) ∧ Aside0 (Kd.R (Kd.int .i64) 3 wc w.heap.size (fun k_ => some k_ ≠ ((.slice Ao19 t555.length co19) : Value).ownBlock ∧ some k_ ≠ ((.slice Ao39 t584.length co39) : Value).ownBlock ∧ some k_ ≠ ((.slice Ao41 t590.length co41) : Value).ownBlock) (.slice Ao40 t587.length co40) t587) ∧ Aside0 (Kd.R (Kd.int .i64) 3 wc w.heap.size (fun k_ => some k_ ≠ ((.slice Ao19 t555.length co19) : Value).ownBlock ∧ some k_ ≠ ((.slice Ao39 t584.length co39) : Value).ownBlock ∧ some k_ ≠ ((.slice Ao40 t587.length co40) : Value).ownBlock) (.slice Ao41 t590.length co41) t590) ∧ Aside0 (wc.heap[gb558]? = some (.cells #[.int .i64 t552, .int .i64 t553, .int .i64 t554] 29 (0, 0))) ∧ Aside0 (wc.heap[gb594]? = some (.cells #[.int .i64 t581, .int .i64 t582, .int .i64 t583, (.slice Ao39 t584.length co39), (.slice Ao40 t587.length co40), (.slice Ao41 t590.length co41)] 34 (0, 0))) ∧ Aside0 (wc.heap[gb599]? = some (.cells #[.int .i64 t595, .int .i64 t596, .int .i64 t597] 29 (0, 0))) ∧ Aside0 (wc.heap[gb604]? = some (.cells #[.int .i64 t600, .int .i64 t601, .int .i64 t602] 29 (0, 0))) ∧ Aside0 (Below w.heap.size w wc))
  case first =>
   have H := HC15.out
   clear HC15
   by_cases c56 : (t562 != t566) = true
   ·refine ?z1_
    let rec p1_ : type_of% ?z1_ := by(
    rw [if_pos c56] at H
    have c56b0 : (t562 != t566) = true := c56
    (try (have c56b1 : decide (t562 = t566) = false := by simpa using c56))
    (try (have c56b2 : (t562 == t566) = false := by simpa using c56))
    (try (have c56b3 : ¬ (t562 = t566) := by simpa using c56))
    clear c56
    (first | rw [c56b0] | (simp only [i64_w, i32_w]; rw [c56b0]) | skip)
    have H' := Aside0.mk H
    clear H
    try go_wp2
    have n0_ : Aside0 (Kd.R (Kd.int .i64) 3 (((w50.setCell ⟨gb604, 0, none⟩ (.int .i64 t600)).setCell ⟨gb604, 1, none⟩ (.int .i64 t601)).setCell ⟨gb604, 2, none⟩ (.int .i64 t602)) w.heap.size (fun k_ => some k_ ≠ (.slice Ao39 t584.length co39 : Value).ownBlock ∧ some k_ ≠ (.slice Ao40 t587.length co40 : Value).ownBlock ∧ some k_ ≠ (.slice Ao41 t590.length co41 : Value).ownBlock) (.slice Ao19 t555.length co19) t555) := ⟨Kd.R_mono (Kd.R_s HO557 BK604) (fun _ hk => ⟨hk.1.1.2, ⟨hk.1.2, hk.2⟩⟩)⟩
    have n1_ : Aside0 (Kd.R k29 29 (((w50.setCell ⟨gb604, 0, none⟩ (.int .i64 t600)).setCell ⟨gb604, 1, none⟩ (.int .i64 t601)).setCell ⟨gb604, 2, none⟩ (.int .i64 t602)) w.heap.size (fun k_ => some k_ ≠ (v564 : Value).ownBlock ∧ k_ ≠ gb558 ∧ k_ ≠ gb570 ∧ k_ ≠ gb599 ∧ k_ ≠ gb604) v560 t559) := ⟨Kd.R_pp (Kd.R_mono (Kd.R_far (p := ⟨gb604, 2, none⟩) (Kd.R_far (p := ⟨gb604, 1, none⟩) (Kd.R_far (p := ⟨gb604, 0, none⟩) (Kd.R_mono HO561.out (fun k_ hk => (⟨hk, hk.2⟩ : _ ∧ k_ ≠ gb604))) (fun _ hk => hk.2) (.int .i64 t600)) (fun _ hk => hk.2) (.int .i64 t601)) (fun _ hk => hk.2) (.int .i64 t602)) (fun _ hk => ⟨hk.1.1.1.1.2, ⟨hk.1.1.1.1.1.2, ⟨hk.1.1.1.2, ⟨hk.1.1.2, hk.1.2⟩⟩⟩⟩))⟩
    have n2_ : Aside0 (Kd.R k29 29 (((w50.setCell ⟨gb604, 0, none⟩ (.int .i64 t600)).setCell ⟨gb604, 1, none⟩ (.int .i64 t601)).setCell ⟨gb604, 2, none⟩ (.int .i64 t602)) w.heap.size (fun k_ => some k_ ≠ (v560 : Value).ownBlock ∧ k_ ≠ gb558 ∧ k_ ≠ gb570 ∧ k_ ≠ gb599 ∧ k_ ≠ gb604) v564 t563) := ⟨Kd.R_pp (Kd.R_mono (Kd.R_far (p := ⟨gb604, 2, none⟩) (Kd.R_far (p := ⟨gb604, 1, none⟩) (Kd.R_far (p := ⟨gb604, 0, none⟩) (Kd.R_mono HO565.out (fun k_ hk => (⟨hk, hk.2⟩ : _ ∧ k_ ≠ gb604))) (fun _ hk => hk.2) (.int .i64 t600)) (fun _ hk => hk.2) (.int .i64 t601)) (fun _ hk => hk.2) (.int .i64 t602)) (fun _ hk => ⟨hk.1.1.1.1.1.2, ⟨hk.1.1.1.1.2, ⟨hk.1.1.1.2, ⟨hk.1.1.2, hk.1.2⟩⟩⟩⟩))⟩
    have n3_ : Aside0 (Kd.R (Kd.int .i64) 3 (((w50.setCell ⟨gb604, 0, none⟩ (.int .i64 t600)).setCell ⟨gb604, 1, none⟩ (.int .i64 t601)).setCell ⟨gb604, 2, none⟩ (.int .i64 t602)) w.heap.size (fun k_ => some k_ ≠ (.slice Ao19 t555.length co19 : Value).ownBlock ∧ some k_ ≠ (.slice Ao40 t587.length co40 : Value).ownBlock ∧ some k_ ≠ (.slice Ao41 t590.length co41 : Value).ownBlock) (.slice Ao39 t584.length co39) t584) := ⟨Kd.R_mono (Kd.R_s HO586 BK604) (fun _ hk => ⟨hk.2, ⟨hk.1.1, hk.1.2⟩⟩)⟩
    have n4_ : Aside0 (Kd.R (Kd.int .i64) 3 (((w50.setCell ⟨gb604, 0, none⟩ (.int .i64 t600)).setCell ⟨gb604, 1, none⟩ (.int .i64 t601)).setCell ⟨gb604, 2, none⟩ (.int .i64 t602)) w.heap.size (fun k_ => some k_ ≠ (.slice Ao19 t555.length co19 : Value).ownBlock ∧ some k_ ≠ (.slice Ao39 t584.length co39 : Value).ownBlock ∧ some k_ ≠ (.slice Ao41 t590.length co41 : Value).ownBlock) (.slice Ao40 t587.length co40) t587) := ⟨Kd.R_mono (Kd.R_s HO589 BK604) (fun _ hk => ⟨hk.2, ⟨hk.1.1, hk.1.2⟩⟩)⟩
    have n5_ : Aside0 (Kd.R (Kd.int .i64) 3 (((w50.setCell ⟨gb604, 0, none⟩ (.int .i64 t600)).setCell ⟨gb604, 1, none⟩ (.int .i64 t601)).setCell ⟨gb604, 2, none⟩ (.int .i64 t602)) w.heap.size (fun k_ => some k_ ≠ (.slice Ao19 t555.length co19 : Value).ownBlock ∧ some k_ ≠ (.slice Ao39 t584.length co39 : Value).ownBlock ∧ some k_ ≠ (.slice Ao40 t587.length co40 : Value).ownBlock) (.slice Ao41 t590.length co41) t590) := ⟨Kd.R_mono (Kd.R_s HO592 BK604) (fun _ hk => ⟨hk.2, ⟨hk.1.1, hk.1.2⟩⟩)⟩
    have n6_ : Aside0 ((((w50.setCell ⟨gb604, 0, none⟩ (.int .i64 t600)).setCell ⟨gb604, 1, none⟩ (.int .i64 t601)).setCell ⟨gb604, 2, none⟩ (.int .i64 t602)).heap[gb558]? = some (.cells #[.int .i64 t552, .int .i64 t553, .int .i64 t554] 29 (0, 0))) := ⟨kf_ BK558 NB558_604⟩
    have n7_ : Aside0 ((((w50.setCell ⟨gb604, 0, none⟩ (.int .i64 t600)).setCell ⟨gb604, 1, none⟩ (.int .i64 t601)).setCell ⟨gb604, 2, none⟩ (.int .i64 t602)).heap[gb570]? = some (.cells #[.int .i64 t567, .int .i64 t568, .int .i64 t569] 29 (0, 0))) := ⟨kf_ BK570 NB570_604⟩
    have n8_ : Aside0 ((((w50.setCell ⟨gb604, 0, none⟩ (.int .i64 t600)).setCell ⟨gb604, 1, none⟩ (.int .i64 t601)).setCell ⟨gb604, 2, none⟩ (.int .i64 t602)).heap[gb594]? = some (.cells #[.int .i64 t581, .int .i64 t582, .int .i64 t583, .slice Ao39 t584.length co39, .slice Ao40 t587.length co40, .slice Ao41 t590.length co41] 34 (0, 0))) := ⟨kf_ BK594 NB594_604⟩
    have n9_ : Aside0 ((((w50.setCell ⟨gb604, 0, none⟩ (.int .i64 t600)).setCell ⟨gb604, 1, none⟩ (.int .i64 t601)).setCell ⟨gb604, 2, none⟩ (.int .i64 t602)).heap[gb599]? = some (.cells #[.int .i64 t595, .int .i64 t596, .int .i64 t597] 29 (0, 0))) := ⟨kf_ BK599 NB599_604⟩
    have n10_ : Aside0 ((((w50.setCell ⟨gb604, 0, none⟩ (.int .i64 t600)).setCell ⟨gb604, 1, none⟩ (.int .i64 t601)).setCell ⟨gb604, 2, none⟩ (.int .i64 t602)).heap[gb604]? = some (.cells #[.int .i64 t600, .int .i64 t601, .int .i64 t602] 29 (0, 0))) := ⟨kpq_ (kputs BK604 [(0, _), (1, _), (2, _)])⟩
    have n11_ : Aside0 (Below w.heap.size w (((w50.setCell ⟨gb604, 0, none⟩ (.int .i64 t600)).setCell ⟨gb604, 1, none⟩ (.int .i64 t601)).setCell ⟨gb604, 2, none⟩ (.int .i64 t602))) := ⟨hb_ HB⟩
    (try clear HO557)
    (try clear HO561)
    (try clear HO565)
    (try clear HO586)
    (try clear HO589)
    (try clear HO592)
    (try clear BK558)
    (try clear BK570)
    (try clear BK594)
    (try clear BK599)
    (try clear BK604)
    (try clear HB)
    generalize (((w50.setCell ⟨gb604, 0, none⟩ (.int .i64 t600)).setCell ⟨gb604, 1, none⟩ (.int .i64 t601)).setCell ⟨gb604, 2, none⟩ (.int .i64 t602)) = w57 at n0_ n1_ n2_ n3_ n4_ n5_ n6_ n7_ n8_ n9_ n10_ n11_ ⊢
    have HO557 := n0_
    have HO561 := n1_
    have HO565 := n2_
    have HO586 := n3_
    have HO589 := n4_
    have HO592 := n5_
    have BK558 := n6_
    have BK570 := n7_
    have BK594 := n8_
    have BK599 := n9_
    have BK604 := n10_
    have HB := n11_
    clear n0_ n1_ n2_ n3_ n4_ n5_ n6_ n7_ n8_ n9_ n10_ n11_
    have n0_ := Aside0.mk (Kd.R_drew HO557.out)
    have n1_ := Aside0.mk (Kd.R_drew HO561.out)
    have n2_ := Aside0.mk (Kd.R_drew HO565.out)
    have n3_ := Aside0.mk (Kd.R_drew HO586.out)
    have n4_ := Aside0.mk (Kd.R_drew HO589.out)
    have n5_ := Aside0.mk (Kd.R_drew HO592.out)
    have n6_ := Aside0.mk (blk_drew BK558.out)
    have n7_ := Aside0.mk (blk_drew BK570.out)
    have n8_ := Aside0.mk (blk_drew BK594.out)
    have n9_ := Aside0.mk (blk_drew BK599.out)
    have n10_ := Aside0.mk (blk_drew BK604.out)
    have n11_ := Aside0.mk (below_drew1 HB.out)
    clear HO557
    clear HO561
    clear HO565
    clear HO586
    clear HO589
    clear HO592
    clear BK558
    clear BK570
    clear BK594
    clear BK599
    clear BK604
    clear HB
    have HO557 := n0_
    have HO561 := n1_
    have HO565 := n2_
    have HO586 := n3_
    have HO589 := n4_
    have HO592 := n5_
    have BK558 := n6_
    have BK570 := n7_
    have BK594 := n8_
    have BK599 := n9_
    have BK604 := n10_
    have HB := n11_
    clear n0_ n1_ n2_ n3_ n4_ n5_ n6_ n7_ n8_ n9_ n10_ n11_
    refine start_ (n := 51) (S := fun w' => True) (ds := []) (bb 51 0) (by kernel_rfl) rfl rfl trivial (fun hHeld => ?_); refine with_tabW laws_FnPieces.tab14 laws_FnPieces.bits14 (fun HT_ HW_ => ?_)
    generalize w57.drew = w58 at HO557 HO561 HO565 HO586 HO589 HO592 BK558 BK570 BK594 BK599 BK604 HB hHeld ⊢
    refine pl_ HT_ 0 (some 102) (bb 51 1) (h := ?_)
    refine pl_ HT_ 1 (some 103) (bb 51 3) (h := ?_)
    refine pl_ HT_ 2 (some 104) (bb 51 7) (h := ?_)
    refine pl_ HT_ 3 (some 105) (bb 51 15) (h := ?_)
    refine pr_ HT_ 4 (some 106) (bb 51 31) (h := ?_)
    refine pr_ HT_ 5 (some 107) (bb 51 63) (h := ?_)
    refine pr_ HT_ 6 (some 108) (bb 51 127) (h := ?_)
    refine pr_ HT_ 7 (some 109) (bb 51 255) (h := ?_)
    refine pl_ HT_ 8 (some 110) (bb 51 511) (h := ?_)
    refine pl_ HT_ 9 (some 111) (bb 51 1023) (h := ?_)
    refine pr_ HT_ 10 (some 112) (bb 51 2047) (h := ?_)
    refine pr_ HT_ 11 (some 113) (bb 51 4095) (h := ?_)
    refine pr_ HT_ 12 (some 114) (bb 51 8191) (h := ?_)
    refine pl_ HT_ 13 (some 115) (bb 51 16383) (h := ?_)
    refine pl_ HT_ 14 (some 116) (bb 51 32767) (h := ?_)
    refine pr_ HT_ 15 (some 117) (bb 51 65535) (h := ?_)
    refine pr_ HT_ 16 (some 118) (bb 51 131071) (h := ?_)
    refine pr_ HT_ 17 (some 119) (bb 51 262143) (h := ?_)
    refine pl_ HT_ 18 (some 120) (bb 51 524287) (h := ?_)
    refine pl_ HT_ 19 (some 121) (bb 51 1048575) (h := ?_)
    refine pr_ HT_ 20 (some 122) (bb 51 2097151) (h := ?_)
    refine pr_ HT_ 21 (some 123) (bb 51 4194303) (h := ?_)
    refine pr_ HT_ 22 (some 124) (bb 51 8388607) (h := ?_)
    refine pl_ HT_ 23 (some 125) (bb 51 16777215) (h := ?_)
    refine pl_ HT_ 24 (some 126) (bb 51 33554431) (h := ?_)
    refine pr_ HT_ 25 (some 127) (bb 51 67108863) (h := ?_)
    refine pr_ HT_ 26 (some 128) (bb 51 134217727) (h := ?_)
    refine pr_ HT_ 27 (some 129) (bb 51 268435455) (h := ?_)
    refine pl_ HT_ 28 (some 130) (bb 51 536870911) (h := ?_)
    refine pl_ HT_ 29 (some 131) (bb 51 1073741823) (h := ?_)
    refine pr_ HT_ 30 (some 132) (bb 51 2147483647) (h := ?_)
    refine pr_ HT_ 31 (some 133) (bb 51 4294967295) (h := ?_)
    refine pr_ HT_ 32 (some 134) (bb 51 8589934591) (h := ?_)
    refine pl_ HT_ 33 (some 135) (bb 51 17179869183) (h := ?_)
    refine pl_ HT_ 34 (some 136) (bb 51 34359738367) (h := ?_)
    refine pr_ HT_ 35 (some 137) (bb 51 68719476735) (h := ?_)
    refine pr_ HT_ 36 (some 138) (bb 51 137438953471) (h := ?_)
    refine pr_ HT_ 37 (some 139) (bb 51 274877906943) (h := ?_)
    refine pl_ HT_ 38 (some 140) (bb 51 549755813887) (h := ?_)
    refine pl_ HT_ 39 (some 141) (bb 51 1099511627775) (h := ?_)
    refine pr_ HT_ 40 (some 142) (bb 51 2199023255551) (h := ?_)
    refine pr_ HT_ 41 (some 143) (bb 51 4398046511103) (h := ?_)
    refine pr_ HT_ 42 (some 144) (bb 51 8796093022207) (h := ?_)
    refine pl_ HT_ 43 (some 145) (bb 51 17592186044415) (h := ?_)
    refine pl_ HT_ 44 (some 146) (bb 51 35184372088831) (h := ?_)
    refine pr_ HT_ 45 (some 147) (bb 51 70368744177663) (h := ?_)
    refine pr_ HT_ 46 (some 148) (bb 51 140737488355327) (h := ?_)
    refine pr_ HT_ 47 (some 149) (bb 51 281474976710655) (h := ?_)
    refine pr_ HT_ 48 (some 150) (bb 51 562949953421311) (h := ?_)
    refine pr_ HT_ 49 (some 151) (bb 51 1125899906842623) (h := ?_)
    refine pl_ HT_ 50 (some 152) (bb 51 2251799813685247) (h := ?_)
    refine done_ (done_of HT_.out (by kernel_rfl)) ?_
    try go_wp2
    go_meet
    case rel => exact ⟨_, (true), (by first | rfl | (simp; done) | (simp [*]; done)), H', ⟨by first | omega | exact Nat.le_refl _⟩, ⟨Kd.R_p HO557⟩, ⟨Kd.R_pp (Kd.R_mono HO561.out (fun _ hk => ⟨hk.1, ⟨hk.2.1, ⟨hk.2.2.2.1, hk.2.2.2.2⟩⟩⟩))⟩, ⟨Kd.R_pp (Kd.R_mono HO565.out (fun _ hk => ⟨hk.1, ⟨hk.2.1, ⟨hk.2.2.2.1, hk.2.2.2.2⟩⟩⟩))⟩, ⟨Kd.R_p HO586⟩, ⟨Kd.R_p HO589⟩, ⟨Kd.R_p HO592⟩, ⟨kp_ BK558⟩, ⟨kp_ BK594⟩, ⟨kp_ BK599⟩, ⟨kp_ BK604⟩, ⟨hb_ HB⟩⟩
    )
    exact p1_
   ·rw [if_neg c56] at H
    have c56b0 : (t562 != t566) = false := by simpa using c56
    (try (have c56b1 : decide (t562 = t566) = true := by simpa using c56))
    (try (have c56b2 : (t562 == t566) = true := by simpa using c56))
    clear c56
    (first | rw [c56b0] | (simp only [i64_w, i32_w]; rw [c56b0]) | skip)
    replace H := Option.bind_eq_some_iff.mp H
    obtain ⟨t605, A590, H⟩ := H
    try dsimp only at H
    have A59 := Aside0.mk A590
    clear A590
    by_cases c60 : t605 = true
    ·subst c60
     rw [if_pos rfl] at H
     by_cases c61 : (t572 != t574) = true
     ·refine ?z2_
      let rec p2_ : type_of% ?z2_ := by(
      rw [if_pos c61] at H
      have c61b0 : (t572 != t574) = true := c61
      (try (have c61b1 : decide (t572 = t574) = false := by simpa using c61))
      (try (have c61b2 : (t572 == t574) = false := by simpa using c61))
      (try (have c61b3 : ¬ (t572 = t574) := by simpa using c61))
      clear c61
      have H' := Aside0.mk H
      clear H
      try go_wp2
      have n0_ : Aside0 (Kd.R (Kd.int .i64) 3 (((w50.setCell ⟨gb604, 0, none⟩ (.int .i64 t600)).setCell ⟨gb604, 1, none⟩ (.int .i64 t601)).setCell ⟨gb604, 2, none⟩ (.int .i64 t602)) w.heap.size (fun k_ => some k_ ≠ (.slice Ao39 t584.length co39 : Value).ownBlock ∧ some k_ ≠ (.slice Ao40 t587.length co40 : Value).ownBlock ∧ some k_ ≠ (.slice Ao41 t590.length co41 : Value).ownBlock) (.slice Ao19 t555.length co19) t555) := ⟨Kd.R_mono (Kd.R_s HO557 BK604) (fun _ hk => ⟨hk.1.1.2, ⟨hk.1.2, hk.2⟩⟩)⟩
      have n1_ : Aside0 (Kd.R k29 29 (((w50.setCell ⟨gb604, 0, none⟩ (.int .i64 t600)).setCell ⟨gb604, 1, none⟩ (.int .i64 t601)).setCell ⟨gb604, 2, none⟩ (.int .i64 t602)) w.heap.size (fun k_ => some k_ ≠ (v564 : Value).ownBlock ∧ k_ ≠ gb558 ∧ k_ ≠ gb570 ∧ k_ ≠ gb599 ∧ k_ ≠ gb604) v560 t559) := ⟨Kd.R_pp (Kd.R_mono (Kd.R_far (p := ⟨gb604, 2, none⟩) (Kd.R_far (p := ⟨gb604, 1, none⟩) (Kd.R_far (p := ⟨gb604, 0, none⟩) (Kd.R_mono HO561.out (fun k_ hk => (⟨hk, hk.2⟩ : _ ∧ k_ ≠ gb604))) (fun _ hk => hk.2) (.int .i64 t600)) (fun _ hk => hk.2) (.int .i64 t601)) (fun _ hk => hk.2) (.int .i64 t602)) (fun _ hk => ⟨hk.1.1.1.1.2, ⟨hk.1.1.1.1.1.2, ⟨hk.1.1.1.2, ⟨hk.1.1.2, hk.1.2⟩⟩⟩⟩))⟩
      have n2_ : Aside0 (Kd.R k29 29 (((w50.setCell ⟨gb604, 0, none⟩ (.int .i64 t600)).setCell ⟨gb604, 1, none⟩ (.int .i64 t601)).setCell ⟨gb604, 2, none⟩ (.int .i64 t602)) w.heap.size (fun k_ => some k_ ≠ (v560 : Value).ownBlock ∧ k_ ≠ gb558 ∧ k_ ≠ gb570 ∧ k_ ≠ gb599 ∧ k_ ≠ gb604) v564 t563) := ⟨Kd.R_pp (Kd.R_mono (Kd.R_far (p := ⟨gb604, 2, none⟩) (Kd.R_far (p := ⟨gb604, 1, none⟩) (Kd.R_far (p := ⟨gb604, 0, none⟩) (Kd.R_mono HO565.out (fun k_ hk => (⟨hk, hk.2⟩ : _ ∧ k_ ≠ gb604))) (fun _ hk => hk.2) (.int .i64 t600)) (fun _ hk => hk.2) (.int .i64 t601)) (fun _ hk => hk.2) (.int .i64 t602)) (fun _ hk => ⟨hk.1.1.1.1.1.2, ⟨hk.1.1.1.1.2, ⟨hk.1.1.1.2, ⟨hk.1.1.2, hk.1.2⟩⟩⟩⟩))⟩
      have n3_ : Aside0 (Kd.R (Kd.int .i64) 3 (((w50.setCell ⟨gb604, 0, none⟩ (.int .i64 t600)).setCell ⟨gb604, 1, none⟩ (.int .i64 t601)).setCell ⟨gb604, 2, none⟩ (.int .i64 t602)) w.heap.size (fun k_ => some k_ ≠ (.slice Ao19 t555.length co19 : Value).ownBlock ∧ some k_ ≠ (.slice Ao40 t587.length co40 : Value).ownBlock ∧ some k_ ≠ (.slice Ao41 t590.length co41 : Value).ownBlock) (.slice Ao39 t584.length co39) t584) := ⟨Kd.R_mono (Kd.R_s HO586 BK604) (fun _ hk => ⟨hk.2, ⟨hk.1.1, hk.1.2⟩⟩)⟩
      have n4_ : Aside0 (Kd.R (Kd.int .i64) 3 (((w50.setCell ⟨gb604, 0, none⟩ (.int .i64 t600)).setCell ⟨gb604, 1, none⟩ (.int .i64 t601)).setCell ⟨gb604, 2, none⟩ (.int .i64 t602)) w.heap.size (fun k_ => some k_ ≠ (.slice Ao19 t555.length co19 : Value).ownBlock ∧ some k_ ≠ (.slice Ao39 t584.length co39 : Value).ownBlock ∧ some k_ ≠ (.slice Ao41 t590.length co41 : Value).ownBlock) (.slice Ao40 t587.length co40) t587) := ⟨Kd.R_mono (Kd.R_s HO589 BK604) (fun _ hk => ⟨hk.2, ⟨hk.1.1, hk.1.2⟩⟩)⟩
      have n5_ : Aside0 (Kd.R (Kd.int .i64) 3 (((w50.setCell ⟨gb604, 0, none⟩ (.int .i64 t600)).setCell ⟨gb604, 1, none⟩ (.int .i64 t601)).setCell ⟨gb604, 2, none⟩ (.int .i64 t602)) w.heap.size (fun k_ => some k_ ≠ (.slice Ao19 t555.length co19 : Value).ownBlock ∧ some k_ ≠ (.slice Ao39 t584.length co39 : Value).ownBlock ∧ some k_ ≠ (.slice Ao40 t587.length co40 : Value).ownBlock) (.slice Ao41 t590.length co41) t590) := ⟨Kd.R_mono (Kd.R_s HO592 BK604) (fun _ hk => ⟨hk.2, ⟨hk.1.1, hk.1.2⟩⟩)⟩
      have n6_ : Aside0 ((((w50.setCell ⟨gb604, 0, none⟩ (.int .i64 t600)).setCell ⟨gb604, 1, none⟩ (.int .i64 t601)).setCell ⟨gb604, 2, none⟩ (.int .i64 t602)).heap[gb558]? = some (.cells #[.int .i64 t552, .int .i64 t553, .int .i64 t554] 29 (0, 0))) := ⟨kf_ BK558 NB558_604⟩
      have n7_ : Aside0 ((((w50.setCell ⟨gb604, 0, none⟩ (.int .i64 t600)).setCell ⟨gb604, 1, none⟩ (.int .i64 t601)).setCell ⟨gb604, 2, none⟩ (.int .i64 t602)).heap[gb570]? = some (.cells #[.int .i64 t567, .int .i64 t568, .int .i64 t569] 29 (0, 0))) := ⟨kf_ BK570 NB570_604⟩
      have n8_ : Aside0 ((((w50.setCell ⟨gb604, 0, none⟩ (.int .i64 t600)).setCell ⟨gb604, 1, none⟩ (.int .i64 t601)).setCell ⟨gb604, 2, none⟩ (.int .i64 t602)).heap[gb594]? = some (.cells #[.int .i64 t581, .int .i64 t582, .int .i64 t583, .slice Ao39 t584.length co39, .slice Ao40 t587.length co40, .slice Ao41 t590.length co41] 34 (0, 0))) := ⟨kf_ BK594 NB594_604⟩
      have n9_ : Aside0 ((((w50.setCell ⟨gb604, 0, none⟩ (.int .i64 t600)).setCell ⟨gb604, 1, none⟩ (.int .i64 t601)).setCell ⟨gb604, 2, none⟩ (.int .i64 t602)).heap[gb599]? = some (.cells #[.int .i64 t595, .int .i64 t596, .int .i64 t597] 29 (0, 0))) := ⟨kf_ BK599 NB599_604⟩
      have n10_ : Aside0 ((((w50.setCell ⟨gb604, 0, none⟩ (.int .i64 t600)).setCell ⟨gb604, 1, none⟩ (.int .i64 t601)).setCell ⟨gb604, 2, none⟩ (.int .i64 t602)).heap[gb604]? = some (.cells #[.int .i64 t600, .int .i64 t601, .int .i64 t602] 29 (0, 0))) := ⟨kpq_ (kputs BK604 [(0, _), (1, _), (2, _)])⟩
      have n11_ : Aside0 (Below w.heap.size w (((w50.setCell ⟨gb604, 0, none⟩ (.int .i64 t600)).setCell ⟨gb604, 1, none⟩ (.int .i64 t601)).setCell ⟨gb604, 2, none⟩ (.int .i64 t602))) := ⟨hb_ HB⟩
      (try clear HO557)
      (try clear HO561)
      (try clear HO565)
      (try clear HO586)
      (try clear HO589)
      (try clear HO592)
      (try clear BK558)
      (try clear BK570)
      (try clear BK594)
      (try clear BK599)
      (try clear BK604)
      (try clear HB)
      generalize (((w50.setCell ⟨gb604, 0, none⟩ (.int .i64 t600)).setCell ⟨gb604, 1, none⟩ (.int .i64 t601)).setCell ⟨gb604, 2, none⟩ (.int .i64 t602)) = w62 at n0_ n1_ n2_ n3_ n4_ n5_ n6_ n7_ n8_ n9_ n10_ n11_ ⊢
      have HO557 := n0_
      have HO561 := n1_
      have HO565 := n2_
      have HO586 := n3_
      have HO589 := n4_
      have HO592 := n5_
      have BK558 := n6_
      have BK570 := n7_
      have BK594 := n8_
      have BK599 := n9_
      have BK604 := n10_
      have HB := n11_
      clear n0_ n1_ n2_ n3_ n4_ n5_ n6_ n7_ n8_ n9_ n10_ n11_
      have n0_ := Aside0.mk (Kd.R_drew HO557.out)
      have n1_ := Aside0.mk (Kd.R_drew HO561.out)
      have n2_ := Aside0.mk (Kd.R_drew HO565.out)
      have n3_ := Aside0.mk (Kd.R_drew HO586.out)
      have n4_ := Aside0.mk (Kd.R_drew HO589.out)
      have n5_ := Aside0.mk (Kd.R_drew HO592.out)
      have n6_ := Aside0.mk (blk_drew BK558.out)
      have n7_ := Aside0.mk (blk_drew BK570.out)
      have n8_ := Aside0.mk (blk_drew BK594.out)
      have n9_ := Aside0.mk (blk_drew BK599.out)
      have n10_ := Aside0.mk (blk_drew BK604.out)
      have n11_ := Aside0.mk (below_drew1 HB.out)
      clear HO557
      clear HO561
      clear HO565
      clear HO586
      clear HO589
      clear HO592
      clear BK558
      clear BK570
      clear BK594
      clear BK599
      clear BK604
      clear HB
      have HO557 := n0_
      have HO561 := n1_
      have HO565 := n2_
      have HO586 := n3_
      have HO589 := n4_
      have HO592 := n5_
      have BK558 := n6_
      have BK570 := n7_
      have BK594 := n8_
      have BK599 := n9_
      have BK604 := n10_
      have HB := n11_
      clear n0_ n1_ n2_ n3_ n4_ n5_ n6_ n7_ n8_ n9_ n10_ n11_
      obtain ⟨Ao64, co64, eo64⟩ := Kd.R_slice HO561.out
      (first | subst eo64 | (injection eo64 with f1_ f2_ f3_; have f4_ := f1_.symm; have f5_ := f3_.symm; clear f1_ f2_ f3_; subst f4_; subst f5_))
      obtain ⟨Ao65, co65, eo65⟩ := Kd.R_slice HO565.out
      (first | subst eo65 | (injection eo65 with f1_ f2_ f3_; have f4_ := f1_.symm; have f5_ := f3_.symm; clear f1_ f2_ f3_; subst f4_; subst f5_))
      refine start_ (n := 51) (S := fun w' => True) (ds := []) (bb 51 0) (by kernel_rfl) rfl rfl trivial (fun hHeld => ?_); refine with_tabW laws_FnPieces.tab14 laws_FnPieces.bits14 (fun HT_ HW_ => ?_)
      generalize w62.drew = w63 at HO557 HO561 HO565 HO586 HO589 HO592 BK558 BK570 BK594 BK599 BK604 HB hHeld ⊢
      refine pl_ HT_ 0 (some 102) (bb 51 1) (h := ?_)
      refine pl_ HT_ 1 (some 103) (bb 51 3) (h := ?_)
      refine pl_ HT_ 2 (some 104) (bb 51 7) (h := ?_)
      refine pl_ HT_ 3 (some 105) (bb 51 15) (h := ?_)
      refine pl_ HT_ 4 (some 106) (bb 51 31) (h := ?_)
      refine pl_ HT_ 5 (some 107) (bb 51 63) (h := ?_)
      refine one_ (i := 6) (N := some 108) (bb 51 127) rfl rfl (one_of HT_.out (by kernel_rfl)) (by decide) (fun K hK => ?_)
      refine goes_ Try.func46 (by kernel_rfl) rfl #[.slice Ao64 t559.length co64, .slice Ao65 t563.length co65] (by rfl) rfl rfl (by (try simp only [List.map_toArray, List.map_cons, List.map_nil]); first | done | rfl | (simp only [List.length_drop, List.length_take]; rfl)) ?_
      with_reducible refine (laws_qPieces.calls k _ _ t559 _ _ t563 true _ ?side1 ?side2 ?side3 ?side4 A59.out).mono ?_
      (case side1 => exact Kd.C_o HO561)
      (case side2 => exact (Kd.R_reads' HO561.out).2.1)
      (case side3 => exact Kd.C_o HO565)
      (case side4 => exact (Kd.R_reads' HO565.out).2.1)
      rintro e w' ⟨rfl, ⟨nd, rfl⟩⟩
      refine ⟨_, rfl, ?_⟩
      refine hK.out _ _ trivial (fun hHeld => ?_)
      clear hK K
      refine norm_ (a' := ?_) ?_ ?_
      rotate_left
      ·show Act.put _ (some 108) _ = _
       simp only [Act.put, List.setIfInBounds_toArray, List.set_cons_zero, List.set_cons_succ, i64_w, i32_w]
       rfl
      refine pl_ HT_ 7 (some 109) (bb 51 255) (h := ?_)
      refine pl_ HT_ 8 (some 110) (bb 51 511) (h := ?_)
      refine pl_ HT_ 9 (some 111) (bb 51 1023) (h := ?_)
      refine pl_ HT_ 10 (some 112) (bb 51 2047) (h := ?_)
      refine pl_ HT_ 11 (some 113) (bb 51 4095) (h := ?_)
      refine pl_ HT_ 12 (some 114) (bb 51 8191) (h := ?_)
      refine pl_ HT_ 13 (some 115) (bb 51 16383) (h := ?_)
      refine pl_ HT_ 14 (some 116) (bb 51 32767) (h := ?_)
      refine pr_ HT_ 15 (some 117) (bb 51 65535) (h := ?_)
      refine pr_ HT_ 16 (some 118) (bb 51 131071) (h := ?_)
      refine pr_ HT_ 17 (some 119) (bb 51 262143) (h := ?_)
      refine pl_ HT_ 18 (some 120) (bb 51 524287) (h := ?_)
      refine pl_ HT_ 19 (some 121) (bb 51 1048575) (h := ?_)
      refine pr_ HT_ 20 (some 122) (bb 51 2097151) (h := ?_)
      refine pr_ HT_ 21 (some 123) (bb 51 4194303) (h := ?_)
      refine pr_ HT_ 22 (some 124) (bb 51 8388607) (h := ?_)
      refine pl_ HT_ 23 (some 125) (bb 51 16777215) (h := ?_)
      refine pl_ HT_ 24 (some 126) (bb 51 33554431) (h := ?_)
      refine pr_ HT_ 25 (some 127) (bb 51 67108863) (h := ?_)
      refine pr_ HT_ 26 (some 128) (bb 51 134217727) (h := ?_)
      refine pr_ HT_ 27 (some 129) (bb 51 268435455) (h := ?_)
      refine pl_ HT_ 28 (some 130) (bb 51 536870911) (h := ?_)
      refine pl_ HT_ 29 (some 131) (bb 51 1073741823) (h := ?_)
      refine pr_ HT_ 30 (some 132) (bb 51 2147483647) (h := ?_)
      refine pr_ HT_ 31 (some 133) (bb 51 4294967295) (h := ?_)
      refine pr_ HT_ 32 (some 134) (bb 51 8589934591) (h := ?_)
      refine pl_ HT_ 33 (some 135) (bb 51 17179869183) (h := ?_)
      refine pl_ HT_ 34 (some 136) (bb 51 34359738367) (h := ?_)
      refine pr_ HT_ 35 (some 137) (bb 51 68719476735) (h := ?_)
      refine pr_ HT_ 36 (some 138) (bb 51 137438953471) (h := ?_)
      refine pr_ HT_ 37 (some 139) (bb 51 274877906943) (h := ?_)
      refine pl_ HT_ 38 (some 140) (bb 51 549755813887) (h := ?_)
      refine pl_ HT_ 39 (some 141) (bb 51 1099511627775) (h := ?_)
      refine pr_ HT_ 40 (some 142) (bb 51 2199023255551) (h := ?_)
      refine pr_ HT_ 41 (some 143) (bb 51 4398046511103) (h := ?_)
      refine pr_ HT_ 42 (some 144) (bb 51 8796093022207) (h := ?_)
      refine pl_ HT_ 43 (some 145) (bb 51 17592186044415) (h := ?_)
      refine pl_ HT_ 44 (some 146) (bb 51 35184372088831) (h := ?_)
      refine pr_ HT_ 45 (some 147) (bb 51 70368744177663) (h := ?_)
      refine pr_ HT_ 46 (some 148) (bb 51 140737488355327) (h := ?_)
      refine pr_ HT_ 47 (some 149) (bb 51 281474976710655) (h := ?_)
      refine pr_ HT_ 48 (some 150) (bb 51 562949953421311) (h := ?_)
      refine pr_ HT_ 49 (some 151) (bb 51 1125899906842623) (h := ?_)
      refine pl_ HT_ 50 (some 152) (bb 51 2251799813685247) (h := ?_)
      refine done_ (done_of HT_.out (by kernel_rfl)) ?_
      try go_wp2
      go_meet
      case rel => exact ⟨_, (true), (by first | rfl | (simp; done) | (simp [*]; done)), H', ⟨by first | omega | exact Nat.le_refl _⟩, ⟨Kd.R_p HO557⟩, ⟨Kd.R_pp (Kd.R_mono HO561.out (fun _ hk => ⟨hk.1, ⟨hk.2.1, ⟨hk.2.2.2.1, hk.2.2.2.2⟩⟩⟩))⟩, ⟨Kd.R_pp (Kd.R_mono HO565.out (fun _ hk => ⟨hk.1, ⟨hk.2.1, ⟨hk.2.2.2.1, hk.2.2.2.2⟩⟩⟩))⟩, ⟨Kd.R_p HO586⟩, ⟨Kd.R_p HO589⟩, ⟨Kd.R_p HO592⟩, ⟨kp_ BK558⟩, ⟨kp_ BK594⟩, ⟨kp_ BK599⟩, ⟨kp_ BK604⟩, ⟨hb_ HB⟩⟩
      )
      exact p2_
     ·rw [if_neg c61] at H
      have c61b0 : (t572 != t574) = false := by simpa using c61
      (try (have c61b1 : decide (t572 = t574) = true := by simpa using c61))
      (try (have c61b2 : (t572 == t574) = true := by simpa using c61))
      clear c61
      by_cases c66 : t571 = t573
      ·rw [if_pos c66] at H
       have c66b0 : (t571 == t573) = true := beq_iff_eq.mpr c66
       have c66b1 : (t571 != t573) = false := bne_eq_false_iff_eq.mpr c66
       clear c66
       by_cases c67 : (t577 != t580) = true
       ·refine ?z3_
        let rec p3_ : type_of% ?z3_ := by(
        rw [if_pos c67] at H
        have c67b0 : (t577 != t580) = true := c67
        (try (have c67b1 : decide (t577 = t580) = false := by simpa using c67))
        (try (have c67b2 : (t577 == t580) = false := by simpa using c67))
        (try (have c67b3 : ¬ (t577 = t580) := by simpa using c67))
        clear c67
        have H' := Aside0.mk H
        clear H
        try go_wp2
        have n0_ : Aside0 (Kd.R (Kd.int .i64) 3 (((w50.setCell ⟨gb604, 0, none⟩ (.int .i64 t600)).setCell ⟨gb604, 1, none⟩ (.int .i64 t601)).setCell ⟨gb604, 2, none⟩ (.int .i64 t602)) w.heap.size (fun k_ => some k_ ≠ (.slice Ao39 t584.length co39 : Value).ownBlock ∧ some k_ ≠ (.slice Ao40 t587.length co40 : Value).ownBlock ∧ some k_ ≠ (.slice Ao41 t590.length co41 : Value).ownBlock) (.slice Ao19 t555.length co19) t555) := ⟨Kd.R_mono (Kd.R_s HO557 BK604) (fun _ hk => ⟨hk.1.1.2, ⟨hk.1.2, hk.2⟩⟩)⟩
        have n1_ : Aside0 (Kd.R k29 29 (((w50.setCell ⟨gb604, 0, none⟩ (.int .i64 t600)).setCell ⟨gb604, 1, none⟩ (.int .i64 t601)).setCell ⟨gb604, 2, none⟩ (.int .i64 t602)) w.heap.size (fun k_ => some k_ ≠ (v564 : Value).ownBlock ∧ k_ ≠ gb558 ∧ k_ ≠ gb570 ∧ k_ ≠ gb599 ∧ k_ ≠ gb604) v560 t559) := ⟨Kd.R_pp (Kd.R_mono (Kd.R_far (p := ⟨gb604, 2, none⟩) (Kd.R_far (p := ⟨gb604, 1, none⟩) (Kd.R_far (p := ⟨gb604, 0, none⟩) (Kd.R_mono HO561.out (fun k_ hk => (⟨hk, hk.2⟩ : _ ∧ k_ ≠ gb604))) (fun _ hk => hk.2) (.int .i64 t600)) (fun _ hk => hk.2) (.int .i64 t601)) (fun _ hk => hk.2) (.int .i64 t602)) (fun _ hk => ⟨hk.1.1.1.1.2, ⟨hk.1.1.1.1.1.2, ⟨hk.1.1.1.2, ⟨hk.1.1.2, hk.1.2⟩⟩⟩⟩))⟩
        have n2_ : Aside0 (Kd.R k29 29 (((w50.setCell ⟨gb604, 0, none⟩ (.int .i64 t600)).setCell ⟨gb604, 1, none⟩ (.int .i64 t601)).setCell ⟨gb604, 2, none⟩ (.int .i64 t602)) w.heap.size (fun k_ => some k_ ≠ (v560 : Value).ownBlock ∧ k_ ≠ gb558 ∧ k_ ≠ gb570 ∧ k_ ≠ gb599 ∧ k_ ≠ gb604) v564 t563) := ⟨Kd.R_pp (Kd.R_mono (Kd.R_far (p := ⟨gb604, 2, none⟩) (Kd.R_far (p := ⟨gb604, 1, none⟩) (Kd.R_far (p := ⟨gb604, 0, none⟩) (Kd.R_mono HO565.out (fun k_ hk => (⟨hk, hk.2⟩ : _ ∧ k_ ≠ gb604))) (fun _ hk => hk.2) (.int .i64 t600)) (fun _ hk => hk.2) (.int .i64 t601)) (fun _ hk => hk.2) (.int .i64 t602)) (fun _ hk => ⟨hk.1.1.1.1.1.2, ⟨hk.1.1.1.1.2, ⟨hk.1.1.1.2, ⟨hk.1.1.2, hk.1.2⟩⟩⟩⟩))⟩
        have n3_ : Aside0 (Kd.R (Kd.int .i64) 3 (((w50.setCell ⟨gb604, 0, none⟩ (.int .i64 t600)).setCell ⟨gb604, 1, none⟩ (.int .i64 t601)).setCell ⟨gb604, 2, none⟩ (.int .i64 t602)) w.heap.size (fun k_ => some k_ ≠ (.slice Ao19 t555.length co19 : Value).ownBlock ∧ some k_ ≠ (.slice Ao40 t587.length co40 : Value).ownBlock ∧ some k_ ≠ (.slice Ao41 t590.length co41 : Value).ownBlock) (.slice Ao39 t584.length co39) t584) := ⟨Kd.R_mono (Kd.R_s HO586 BK604) (fun _ hk => ⟨hk.2, ⟨hk.1.1, hk.1.2⟩⟩)⟩
        have n4_ : Aside0 (Kd.R (Kd.int .i64) 3 (((w50.setCell ⟨gb604, 0, none⟩ (.int .i64 t600)).setCell ⟨gb604, 1, none⟩ (.int .i64 t601)).setCell ⟨gb604, 2, none⟩ (.int .i64 t602)) w.heap.size (fun k_ => some k_ ≠ (.slice Ao19 t555.length co19 : Value).ownBlock ∧ some k_ ≠ (.slice Ao39 t584.length co39 : Value).ownBlock ∧ some k_ ≠ (.slice Ao41 t590.length co41 : Value).ownBlock) (.slice Ao40 t587.length co40) t587) := ⟨Kd.R_mono (Kd.R_s HO589 BK604) (fun _ hk => ⟨hk.2, ⟨hk.1.1, hk.1.2⟩⟩)⟩
        have n5_ : Aside0 (Kd.R (Kd.int .i64) 3 (((w50.setCell ⟨gb604, 0, none⟩ (.int .i64 t600)).setCell ⟨gb604, 1, none⟩ (.int .i64 t601)).setCell ⟨gb604, 2, none⟩ (.int .i64 t602)) w.heap.size (fun k_ => some k_ ≠ (.slice Ao19 t555.length co19 : Value).ownBlock ∧ some k_ ≠ (.slice Ao39 t584.length co39 : Value).ownBlock ∧ some k_ ≠ (.slice Ao40 t587.length co40 : Value).ownBlock) (.slice Ao41 t590.length co41) t590) := ⟨Kd.R_mono (Kd.R_s HO592 BK604) (fun _ hk => ⟨hk.2, ⟨hk.1.1, hk.1.2⟩⟩)⟩
        have n6_ : Aside0 ((((w50.setCell ⟨gb604, 0, none⟩ (.int .i64 t600)).setCell ⟨gb604, 1, none⟩ (.int .i64 t601)).setCell ⟨gb604, 2, none⟩ (.int .i64 t602)).heap[gb558]? = some (.cells #[.int .i64 t552, .int .i64 t553, .int .i64 t554] 29 (0, 0))) := ⟨kf_ BK558 NB558_604⟩
        have n7_ : Aside0 ((((w50.setCell ⟨gb604, 0, none⟩ (.int .i64 t600)).setCell ⟨gb604, 1, none⟩ (.int .i64 t601)).setCell ⟨gb604, 2, none⟩ (.int .i64 t602)).heap[gb570]? = some (.cells #[.int .i64 t567, .int .i64 t568, .int .i64 t569] 29 (0, 0))) := ⟨kf_ BK570 NB570_604⟩
        have n8_ : Aside0 ((((w50.setCell ⟨gb604, 0, none⟩ (.int .i64 t600)).setCell ⟨gb604, 1, none⟩ (.int .i64 t601)).setCell ⟨gb604, 2, none⟩ (.int .i64 t602)).heap[gb594]? = some (.cells #[.int .i64 t581, .int .i64 t582, .int .i64 t583, .slice Ao39 t584.length co39, .slice Ao40 t587.length co40, .slice Ao41 t590.length co41] 34 (0, 0))) := ⟨kf_ BK594 NB594_604⟩
        have n9_ : Aside0 ((((w50.setCell ⟨gb604, 0, none⟩ (.int .i64 t600)).setCell ⟨gb604, 1, none⟩ (.int .i64 t601)).setCell ⟨gb604, 2, none⟩ (.int .i64 t602)).heap[gb599]? = some (.cells #[.int .i64 t595, .int .i64 t596, .int .i64 t597] 29 (0, 0))) := ⟨kf_ BK599 NB599_604⟩
        have n10_ : Aside0 ((((w50.setCell ⟨gb604, 0, none⟩ (.int .i64 t600)).setCell ⟨gb604, 1, none⟩ (.int .i64 t601)).setCell ⟨gb604, 2, none⟩ (.int .i64 t602)).heap[gb604]? = some (.cells #[.int .i64 t600, .int .i64 t601, .int .i64 t602] 29 (0, 0))) := ⟨kpq_ (kputs BK604 [(0, _), (1, _), (2, _)])⟩
        have n11_ : Aside0 (Below w.heap.size w (((w50.setCell ⟨gb604, 0, none⟩ (.int .i64 t600)).setCell ⟨gb604, 1, none⟩ (.int .i64 t601)).setCell ⟨gb604, 2, none⟩ (.int .i64 t602))) := ⟨hb_ HB⟩
        (try clear HO557)
        (try clear HO561)
        (try clear HO565)
        (try clear HO586)
        (try clear HO589)
        (try clear HO592)
        (try clear BK558)
        (try clear BK570)
        (try clear BK594)
        (try clear BK599)
        (try clear BK604)
        (try clear HB)
        generalize (((w50.setCell ⟨gb604, 0, none⟩ (.int .i64 t600)).setCell ⟨gb604, 1, none⟩ (.int .i64 t601)).setCell ⟨gb604, 2, none⟩ (.int .i64 t602)) = w68 at n0_ n1_ n2_ n3_ n4_ n5_ n6_ n7_ n8_ n9_ n10_ n11_ ⊢
        have HO557 := n0_
        have HO561 := n1_
        have HO565 := n2_
        have HO586 := n3_
        have HO589 := n4_
        have HO592 := n5_
        have BK558 := n6_
        have BK570 := n7_
        have BK594 := n8_
        have BK599 := n9_
        have BK604 := n10_
        have HB := n11_
        clear n0_ n1_ n2_ n3_ n4_ n5_ n6_ n7_ n8_ n9_ n10_ n11_
        have n0_ := Aside0.mk (Kd.R_drew HO557.out)
        have n1_ := Aside0.mk (Kd.R_drew HO561.out)
        have n2_ := Aside0.mk (Kd.R_drew HO565.out)
        have n3_ := Aside0.mk (Kd.R_drew HO586.out)
        have n4_ := Aside0.mk (Kd.R_drew HO589.out)
        have n5_ := Aside0.mk (Kd.R_drew HO592.out)
        have n6_ := Aside0.mk (blk_drew BK558.out)
        have n7_ := Aside0.mk (blk_drew BK570.out)
        have n8_ := Aside0.mk (blk_drew BK594.out)
        have n9_ := Aside0.mk (blk_drew BK599.out)
        have n10_ := Aside0.mk (blk_drew BK604.out)
        have n11_ := Aside0.mk (below_drew1 HB.out)
        clear HO557
        clear HO561
        clear HO565
        clear HO586
        clear HO589
        clear HO592
        clear BK558
        clear BK570
        clear BK594
        clear BK599
        clear BK604
        clear HB
        have HO557 := n0_
        have HO561 := n1_
        have HO565 := n2_
        have HO586 := n3_
        have HO589 := n4_
        have HO592 := n5_
        have BK558 := n6_
        have BK570 := n7_
        have BK594 := n8_
        have BK599 := n9_
        have BK604 := n10_
        have HB := n11_
        clear n0_ n1_ n2_ n3_ n4_ n5_ n6_ n7_ n8_ n9_ n10_ n11_
        obtain ⟨Ao70, co70, eo70⟩ := Kd.R_slice HO561.out
        (first | subst eo70 | (injection eo70 with f1_ f2_ f3_; have f4_ := f1_.symm; have f5_ := f3_.symm; clear f1_ f2_ f3_; subst f4_; subst f5_))
        obtain ⟨Ao71, co71, eo71⟩ := Kd.R_slice HO565.out
        (first | subst eo71 | (injection eo71 with f1_ f2_ f3_; have f4_ := f1_.symm; have f5_ := f3_.symm; clear f1_ f2_ f3_; subst f4_; subst f5_))
        refine start_ (n := 51) (S := fun w' => True) (ds := []) (bb 51 0) (by kernel_rfl) rfl rfl trivial (fun hHeld => ?_); refine with_tabW laws_FnPieces.tab14 laws_FnPieces.bits14 (fun HT_ HW_ => ?_)
        generalize w68.drew = w69 at HO557 HO561 HO565 HO586 HO589 HO592 BK558 BK570 BK594 BK599 BK604 HB hHeld ⊢
        refine pl_ HT_ 0 (some 102) (bb 51 1) (h := ?_)
        refine pl_ HT_ 1 (some 103) (bb 51 3) (h := ?_)
        refine pl_ HT_ 2 (some 104) (bb 51 7) (h := ?_)
        refine pl_ HT_ 3 (some 105) (bb 51 15) (h := ?_)
        refine pl_ HT_ 4 (some 106) (bb 51 31) (h := ?_)
        refine pl_ HT_ 5 (some 107) (bb 51 63) (h := ?_)
        refine one_ (i := 6) (N := some 108) (bb 51 127) rfl rfl (one_of HT_.out (by kernel_rfl)) (by decide) (fun K hK => ?_)
        refine goes_ Try.func46 (by kernel_rfl) rfl #[.slice Ao70 t559.length co70, .slice Ao71 t563.length co71] (by rfl) rfl rfl (by (try simp only [List.map_toArray, List.map_cons, List.map_nil]); first | done | rfl | (simp only [List.length_drop, List.length_take]; rfl)) ?_
        with_reducible refine (laws_qPieces.calls k _ _ t559 _ _ t563 true _ ?side1 ?side2 ?side3 ?side4 A59.out).mono ?_
        (case side1 => exact Kd.C_o HO561)
        (case side2 => exact (Kd.R_reads' HO561.out).2.1)
        (case side3 => exact Kd.C_o HO565)
        (case side4 => exact (Kd.R_reads' HO565.out).2.1)
        rintro e w' ⟨rfl, ⟨nd, rfl⟩⟩
        refine ⟨_, rfl, ?_⟩
        refine hK.out _ _ trivial (fun hHeld => ?_)
        clear hK K
        refine norm_ (a' := ?_) ?_ ?_
        rotate_left
        ·show Act.put _ (some 108) _ = _
         simp only [Act.put, List.setIfInBounds_toArray, List.set_cons_zero, List.set_cons_succ, i64_w, i32_w]
         rfl
        refine pl_ HT_ 7 (some 109) (bb 51 255) (h := ?_)
        refine pl_ HT_ 8 (some 110) (bb 51 511) (h := ?_)
        refine pl_ HT_ 9 (some 111) (bb 51 1023) (h := ?_)
        refine pl_ HT_ 10 (some 112) (bb 51 2047) (h := ?_)
        refine pl_ HT_ 11 (some 113) (bb 51 4095) (h := ?_)
        refine pl_ HT_ 12 (some 114) (bb 51 8191) (h := ?_)
        refine pl_ HT_ 13 (some 115) (bb 51 16383) (h := ?_)
        refine pl_ HT_ 14 (some 116) (bb 51 32767) (h := ?_)
        refine pl_ HT_ 15 (some 117) (bb 51 65535) (h := ?_)
        refine pl_ HT_ 16 (some 118) (bb 51 131071) (h := ?_)
        refine pl_ HT_ 17 (some 119) (bb 51 262143) (h := ?_)
        refine pl_ HT_ 18 (some 120) (bb 51 524287) (h := ?_)
        refine pl_ HT_ 19 (some 121) (bb 51 1048575) (h := ?_)
        refine pl_ HT_ 20 (some 122) (bb 51 2097151) (h := ?_)
        refine pl_ HT_ 21 (some 123) (bb 51 4194303) (h := ?_)
        refine pl_ HT_ 22 (some 124) (bb 51 8388607) (h := ?_)
        refine pl_ HT_ 23 (some 125) (bb 51 16777215) (h := ?_)
        refine pl_ HT_ 24 (some 126) (bb 51 33554431) (h := ?_)
        refine pr_ HT_ 25 (some 127) (bb 51 67108863) (h := ?_)
        refine pr_ HT_ 26 (some 128) (bb 51 134217727) (h := ?_)
        refine pr_ HT_ 27 (some 129) (bb 51 268435455) (h := ?_)
        refine pl_ HT_ 28 (some 130) (bb 51 536870911) (h := ?_)
        refine pl_ HT_ 29 (some 131) (bb 51 1073741823) (h := ?_)
        refine pr_ HT_ 30 (some 132) (bb 51 2147483647) (h := ?_)
        refine pr_ HT_ 31 (some 133) (bb 51 4294967295) (h := ?_)
        refine pr_ HT_ 32 (some 134) (bb 51 8589934591) (h := ?_)
        refine pl_ HT_ 33 (some 135) (bb 51 17179869183) (h := ?_)
        refine pl_ HT_ 34 (some 136) (bb 51 34359738367) (h := ?_)
        refine pr_ HT_ 35 (some 137) (bb 51 68719476735) (h := ?_)
        refine pr_ HT_ 36 (some 138) (bb 51 137438953471) (h := ?_)
        refine pr_ HT_ 37 (some 139) (bb 51 274877906943) (h := ?_)
        refine pl_ HT_ 38 (some 140) (bb 51 549755813887) (h := ?_)
        refine pl_ HT_ 39 (some 141) (bb 51 1099511627775) (h := ?_)
        refine pr_ HT_ 40 (some 142) (bb 51 2199023255551) (h := ?_)
        refine pr_ HT_ 41 (some 143) (bb 51 4398046511103) (h := ?_)
        refine pr_ HT_ 42 (some 144) (bb 51 8796093022207) (h := ?_)
        refine pl_ HT_ 43 (some 145) (bb 51 17592186044415) (h := ?_)
        refine pl_ HT_ 44 (some 146) (bb 51 35184372088831) (h := ?_)
        refine pr_ HT_ 45 (some 147) (bb 51 70368744177663) (h := ?_)
        refine pr_ HT_ 46 (some 148) (bb 51 140737488355327) (h := ?_)
        refine pr_ HT_ 47 (some 149) (bb 51 281474976710655) (h := ?_)
        refine pr_ HT_ 48 (some 150) (bb 51 562949953421311) (h := ?_)
        refine pr_ HT_ 49 (some 151) (bb 51 1125899906842623) (h := ?_)
        refine pl_ HT_ 50 (some 152) (bb 51 2251799813685247) (h := ?_)
        refine done_ (done_of HT_.out (by kernel_rfl)) ?_
        try go_wp2
        go_meet
        case rel => exact ⟨_, (true), (by first | rfl | (simp; done) | (simp [*]; done)), H', ⟨by first | omega | exact Nat.le_refl _⟩, ⟨Kd.R_p HO557⟩, ⟨Kd.R_pp (Kd.R_mono HO561.out (fun _ hk => ⟨hk.1, ⟨hk.2.1, ⟨hk.2.2.2.1, hk.2.2.2.2⟩⟩⟩))⟩, ⟨Kd.R_pp (Kd.R_mono HO565.out (fun _ hk => ⟨hk.1, ⟨hk.2.1, ⟨hk.2.2.2.1, hk.2.2.2.2⟩⟩⟩))⟩, ⟨Kd.R_p HO586⟩, ⟨Kd.R_p HO589⟩, ⟨Kd.R_p HO592⟩, ⟨kp_ BK558⟩, ⟨kp_ BK594⟩, ⟨kp_ BK599⟩, ⟨kp_ BK604⟩, ⟨hb_ HB⟩⟩
        )
        exact p3_
       ·rw [if_neg c67] at H
        have c67b0 : (t577 != t580) = false := by simpa using c67
        (try (have c67b1 : decide (t577 = t580) = true := by simpa using c67))
        (try (have c67b2 : (t577 == t580) = true := by simpa using c67))
        clear c67
        by_cases c72 : t575 = t578
        ·rw [if_pos c72] at H
         have c72b0 : (t575 == t578) = true := beq_iff_eq.mpr c72
         have c72b1 : (t575 != t578) = false := bne_eq_false_iff_eq.mpr c72
         clear c72
         by_cases c73 : t576 = t579
         ·rw [if_pos c73] at H
          have c73b0 : (t576 == t579) = true := beq_iff_eq.mpr c73
          have c73b1 : (t576 != t579) = false := bne_eq_false_iff_eq.mpr c73
          clear c73
          by_cases c74 : (t598 != t603) = true
          ·refine ?z4_
           let rec p4_ : type_of% ?z4_ := by(
           rw [if_pos c74] at H
           have c74b0 : (t598 != t603) = true := c74
           (try (have c74b1 : decide (t598 = t603) = false := by simpa using c74))
           (try (have c74b2 : (t598 == t603) = false := by simpa using c74))
           (try (have c74b3 : ¬ (t598 = t603) := by simpa using c74))
           clear c74
           have H' := Aside0.mk H
           clear H
           try go_wp2
           have n0_ : Aside0 (Kd.R (Kd.int .i64) 3 (((w50.setCell ⟨gb604, 0, none⟩ (.int .i64 t600)).setCell ⟨gb604, 1, none⟩ (.int .i64 t601)).setCell ⟨gb604, 2, none⟩ (.int .i64 t602)) w.heap.size (fun k_ => some k_ ≠ (.slice Ao39 t584.length co39 : Value).ownBlock ∧ some k_ ≠ (.slice Ao40 t587.length co40 : Value).ownBlock ∧ some k_ ≠ (.slice Ao41 t590.length co41 : Value).ownBlock) (.slice Ao19 t555.length co19) t555) := ⟨Kd.R_mono (Kd.R_s HO557 BK604) (fun _ hk => ⟨hk.1.1.2, ⟨hk.1.2, hk.2⟩⟩)⟩
           have n1_ : Aside0 (Kd.R k29 29 (((w50.setCell ⟨gb604, 0, none⟩ (.int .i64 t600)).setCell ⟨gb604, 1, none⟩ (.int .i64 t601)).setCell ⟨gb604, 2, none⟩ (.int .i64 t602)) w.heap.size (fun k_ => some k_ ≠ (v564 : Value).ownBlock ∧ k_ ≠ gb558 ∧ k_ ≠ gb570 ∧ k_ ≠ gb599 ∧ k_ ≠ gb604) v560 t559) := ⟨Kd.R_pp (Kd.R_mono (Kd.R_far (p := ⟨gb604, 2, none⟩) (Kd.R_far (p := ⟨gb604, 1, none⟩) (Kd.R_far (p := ⟨gb604, 0, none⟩) (Kd.R_mono HO561.out (fun k_ hk => (⟨hk, hk.2⟩ : _ ∧ k_ ≠ gb604))) (fun _ hk => hk.2) (.int .i64 t600)) (fun _ hk => hk.2) (.int .i64 t601)) (fun _ hk => hk.2) (.int .i64 t602)) (fun _ hk => ⟨hk.1.1.1.1.2, ⟨hk.1.1.1.1.1.2, ⟨hk.1.1.1.2, ⟨hk.1.1.2, hk.1.2⟩⟩⟩⟩))⟩
           have n2_ : Aside0 (Kd.R k29 29 (((w50.setCell ⟨gb604, 0, none⟩ (.int .i64 t600)).setCell ⟨gb604, 1, none⟩ (.int .i64 t601)).setCell ⟨gb604, 2, none⟩ (.int .i64 t602)) w.heap.size (fun k_ => some k_ ≠ (v560 : Value).ownBlock ∧ k_ ≠ gb558 ∧ k_ ≠ gb570 ∧ k_ ≠ gb599 ∧ k_ ≠ gb604) v564 t563) := ⟨Kd.R_pp (Kd.R_mono (Kd.R_far (p := ⟨gb604, 2, none⟩) (Kd.R_far (p := ⟨gb604, 1, none⟩) (Kd.R_far (p := ⟨gb604, 0, none⟩) (Kd.R_mono HO565.out (fun k_ hk => (⟨hk, hk.2⟩ : _ ∧ k_ ≠ gb604))) (fun _ hk => hk.2) (.int .i64 t600)) (fun _ hk => hk.2) (.int .i64 t601)) (fun _ hk => hk.2) (.int .i64 t602)) (fun _ hk => ⟨hk.1.1.1.1.1.2, ⟨hk.1.1.1.1.2, ⟨hk.1.1.1.2, ⟨hk.1.1.2, hk.1.2⟩⟩⟩⟩))⟩
           have n3_ : Aside0 (Kd.R (Kd.int .i64) 3 (((w50.setCell ⟨gb604, 0, none⟩ (.int .i64 t600)).setCell ⟨gb604, 1, none⟩ (.int .i64 t601)).setCell ⟨gb604, 2, none⟩ (.int .i64 t602)) w.heap.size (fun k_ => some k_ ≠ (.slice Ao19 t555.length co19 : Value).ownBlock ∧ some k_ ≠ (.slice Ao40 t587.length co40 : Value).ownBlock ∧ some k_ ≠ (.slice Ao41 t590.length co41 : Value).ownBlock) (.slice Ao39 t584.length co39) t584) := ⟨Kd.R_mono (Kd.R_s HO586 BK604) (fun _ hk => ⟨hk.2, ⟨hk.1.1, hk.1.2⟩⟩)⟩
           have n4_ : Aside0 (Kd.R (Kd.int .i64) 3 (((w50.setCell ⟨gb604, 0, none⟩ (.int .i64 t600)).setCell ⟨gb604, 1, none⟩ (.int .i64 t601)).setCell ⟨gb604, 2, none⟩ (.int .i64 t602)) w.heap.size (fun k_ => some k_ ≠ (.slice Ao19 t555.length co19 : Value).ownBlock ∧ some k_ ≠ (.slice Ao39 t584.length co39 : Value).ownBlock ∧ some k_ ≠ (.slice Ao41 t590.length co41 : Value).ownBlock) (.slice Ao40 t587.length co40) t587) := ⟨Kd.R_mono (Kd.R_s HO589 BK604) (fun _ hk => ⟨hk.2, ⟨hk.1.1, hk.1.2⟩⟩)⟩
           have n5_ : Aside0 (Kd.R (Kd.int .i64) 3 (((w50.setCell ⟨gb604, 0, none⟩ (.int .i64 t600)).setCell ⟨gb604, 1, none⟩ (.int .i64 t601)).setCell ⟨gb604, 2, none⟩ (.int .i64 t602)) w.heap.size (fun k_ => some k_ ≠ (.slice Ao19 t555.length co19 : Value).ownBlock ∧ some k_ ≠ (.slice Ao39 t584.length co39 : Value).ownBlock ∧ some k_ ≠ (.slice Ao40 t587.length co40 : Value).ownBlock) (.slice Ao41 t590.length co41) t590) := ⟨Kd.R_mono (Kd.R_s HO592 BK604) (fun _ hk => ⟨hk.2, ⟨hk.1.1, hk.1.2⟩⟩)⟩
           have n6_ : Aside0 ((((w50.setCell ⟨gb604, 0, none⟩ (.int .i64 t600)).setCell ⟨gb604, 1, none⟩ (.int .i64 t601)).setCell ⟨gb604, 2, none⟩ (.int .i64 t602)).heap[gb558]? = some (.cells #[.int .i64 t552, .int .i64 t553, .int .i64 t554] 29 (0, 0))) := ⟨kf_ BK558 NB558_604⟩
           have n7_ : Aside0 ((((w50.setCell ⟨gb604, 0, none⟩ (.int .i64 t600)).setCell ⟨gb604, 1, none⟩ (.int .i64 t601)).setCell ⟨gb604, 2, none⟩ (.int .i64 t602)).heap[gb570]? = some (.cells #[.int .i64 t567, .int .i64 t568, .int .i64 t569] 29 (0, 0))) := ⟨kf_ BK570 NB570_604⟩
           have n8_ : Aside0 ((((w50.setCell ⟨gb604, 0, none⟩ (.int .i64 t600)).setCell ⟨gb604, 1, none⟩ (.int .i64 t601)).setCell ⟨gb604, 2, none⟩ (.int .i64 t602)).heap[gb594]? = some (.cells #[.int .i64 t581, .int .i64 t582, .int .i64 t583, .slice Ao39 t584.length co39, .slice Ao40 t587.length co40, .slice Ao41 t590.length co41] 34 (0, 0))) := ⟨kf_ BK594 NB594_604⟩
           have n9_ : Aside0 ((((w50.setCell ⟨gb604, 0, none⟩ (.int .i64 t600)).setCell ⟨gb604, 1, none⟩ (.int .i64 t601)).setCell ⟨gb604, 2, none⟩ (.int .i64 t602)).heap[gb599]? = some (.cells #[.int .i64 t595, .int .i64 t596, .int .i64 t597] 29 (0, 0))) := ⟨kf_ BK599 NB599_604⟩
           have n10_ : Aside0 ((((w50.setCell ⟨gb604, 0, none⟩ (.int .i64 t600)).setCell ⟨gb604, 1, none⟩ (.int .i64 t601)).setCell ⟨gb604, 2, none⟩ (.int .i64 t602)).heap[gb604]? = some (.cells #[.int .i64 t600, .int .i64 t601, .int .i64 t602] 29 (0, 0))) := ⟨kpq_ (kputs BK604 [(0, _), (1, _), (2, _)])⟩
           have n11_ : Aside0 (Below w.heap.size w (((w50.setCell ⟨gb604, 0, none⟩ (.int .i64 t600)).setCell ⟨gb604, 1, none⟩ (.int .i64 t601)).setCell ⟨gb604, 2, none⟩ (.int .i64 t602))) := ⟨hb_ HB⟩
           (try clear HO557)
           (try clear HO561)
           (try clear HO565)
           (try clear HO586)
           (try clear HO589)
           (try clear HO592)
           (try clear BK558)
           (try clear BK570)
           (try clear BK594)
           (try clear BK599)
           (try clear BK604)
           (try clear HB)
           generalize (((w50.setCell ⟨gb604, 0, none⟩ (.int .i64 t600)).setCell ⟨gb604, 1, none⟩ (.int .i64 t601)).setCell ⟨gb604, 2, none⟩ (.int .i64 t602)) = w75 at n0_ n1_ n2_ n3_ n4_ n5_ n6_ n7_ n8_ n9_ n10_ n11_ ⊢
           have HO557 := n0_
           have HO561 := n1_
           have HO565 := n2_
           have HO586 := n3_
           have HO589 := n4_
           have HO592 := n5_
           have BK558 := n6_
           have BK570 := n7_
           have BK594 := n8_
           have BK599 := n9_
           have BK604 := n10_
           have HB := n11_
           clear n0_ n1_ n2_ n3_ n4_ n5_ n6_ n7_ n8_ n9_ n10_ n11_
           have n0_ := Aside0.mk (Kd.R_drew HO557.out)
           have n1_ := Aside0.mk (Kd.R_drew HO561.out)
           have n2_ := Aside0.mk (Kd.R_drew HO565.out)
           have n3_ := Aside0.mk (Kd.R_drew HO586.out)
           have n4_ := Aside0.mk (Kd.R_drew HO589.out)
           have n5_ := Aside0.mk (Kd.R_drew HO592.out)
           have n6_ := Aside0.mk (blk_drew BK558.out)
           have n7_ := Aside0.mk (blk_drew BK570.out)
           have n8_ := Aside0.mk (blk_drew BK594.out)
           have n9_ := Aside0.mk (blk_drew BK599.out)
           have n10_ := Aside0.mk (blk_drew BK604.out)
           have n11_ := Aside0.mk (below_drew1 HB.out)
           clear HO557
           clear HO561
           clear HO565
           clear HO586
           clear HO589
           clear HO592
           clear BK558
           clear BK570
           clear BK594
           clear BK599
           clear BK604
           clear HB
           have HO557 := n0_
           have HO561 := n1_
           have HO565 := n2_
           have HO586 := n3_
           have HO589 := n4_
           have HO592 := n5_
           have BK558 := n6_
           have BK570 := n7_
           have BK594 := n8_
           have BK599 := n9_
           have BK604 := n10_
           have HB := n11_
           clear n0_ n1_ n2_ n3_ n4_ n5_ n6_ n7_ n8_ n9_ n10_ n11_
           obtain ⟨Ao77, co77, eo77⟩ := Kd.R_slice HO561.out
           (first | subst eo77 | (injection eo77 with f1_ f2_ f3_; have f4_ := f1_.symm; have f5_ := f3_.symm; clear f1_ f2_ f3_; subst f4_; subst f5_))
           obtain ⟨Ao78, co78, eo78⟩ := Kd.R_slice HO565.out
           (first | subst eo78 | (injection eo78 with f1_ f2_ f3_; have f4_ := f1_.symm; have f5_ := f3_.symm; clear f1_ f2_ f3_; subst f4_; subst f5_))
           refine start_ (n := 51) (S := fun w' => True) (ds := []) (bb 51 0) (by kernel_rfl) rfl rfl trivial (fun hHeld => ?_); refine with_tabW laws_FnPieces.tab14 laws_FnPieces.bits14 (fun HT_ HW_ => ?_)
           generalize w75.drew = w76 at HO557 HO561 HO565 HO586 HO589 HO592 BK558 BK570 BK594 BK599 BK604 HB hHeld ⊢
           refine pl_ HT_ 0 (some 102) (bb 51 1) (h := ?_)
           refine pl_ HT_ 1 (some 103) (bb 51 3) (h := ?_)
           refine pl_ HT_ 2 (some 104) (bb 51 7) (h := ?_)
           refine pl_ HT_ 3 (some 105) (bb 51 15) (h := ?_)
           refine pl_ HT_ 4 (some 106) (bb 51 31) (h := ?_)
           refine pl_ HT_ 5 (some 107) (bb 51 63) (h := ?_)
           refine one_ (i := 6) (N := some 108) (bb 51 127) rfl rfl (one_of HT_.out (by kernel_rfl)) (by decide) (fun K hK => ?_)
           refine goes_ Try.func46 (by kernel_rfl) rfl #[.slice Ao77 t559.length co77, .slice Ao78 t563.length co78] (by rfl) rfl rfl (by (try simp only [List.map_toArray, List.map_cons, List.map_nil]); first | done | rfl | (simp only [List.length_drop, List.length_take]; rfl)) ?_
           with_reducible refine (laws_qPieces.calls k _ _ t559 _ _ t563 true _ ?side1 ?side2 ?side3 ?side4 A59.out).mono ?_
           (case side1 => exact Kd.C_o HO561)
           (case side2 => exact (Kd.R_reads' HO561.out).2.1)
           (case side3 => exact Kd.C_o HO565)
           (case side4 => exact (Kd.R_reads' HO565.out).2.1)
           rintro e w' ⟨rfl, ⟨nd, rfl⟩⟩
           refine ⟨_, rfl, ?_⟩
           refine hK.out _ _ trivial (fun hHeld => ?_)
           clear hK K
           refine norm_ (a' := ?_) ?_ ?_
           rotate_left
           ·show Act.put _ (some 108) _ = _
            simp only [Act.put, List.setIfInBounds_toArray, List.set_cons_zero, List.set_cons_succ, i64_w, i32_w]
            rfl
           refine pl_ HT_ 7 (some 109) (bb 51 255) (h := ?_)
           refine pl_ HT_ 8 (some 110) (bb 51 511) (h := ?_)
           refine pl_ HT_ 9 (some 111) (bb 51 1023) (h := ?_)
           refine pl_ HT_ 10 (some 112) (bb 51 2047) (h := ?_)
           refine pl_ HT_ 11 (some 113) (bb 51 4095) (h := ?_)
           refine pl_ HT_ 12 (some 114) (bb 51 8191) (h := ?_)
           refine pl_ HT_ 13 (some 115) (bb 51 16383) (h := ?_)
           refine pl_ HT_ 14 (some 116) (bb 51 32767) (h := ?_)
           refine pl_ HT_ 15 (some 117) (bb 51 65535) (h := ?_)
           refine pl_ HT_ 16 (some 118) (bb 51 131071) (h := ?_)
           refine pl_ HT_ 17 (some 119) (bb 51 262143) (h := ?_)
           refine pl_ HT_ 18 (some 120) (bb 51 524287) (h := ?_)
           refine pl_ HT_ 19 (some 121) (bb 51 1048575) (h := ?_)
           refine pl_ HT_ 20 (some 122) (bb 51 2097151) (h := ?_)
           refine pl_ HT_ 21 (some 123) (bb 51 4194303) (h := ?_)
           refine pl_ HT_ 22 (some 124) (bb 51 8388607) (h := ?_)
           refine pl_ HT_ 23 (some 125) (bb 51 16777215) (h := ?_)
           refine pl_ HT_ 24 (some 126) (bb 51 33554431) (h := ?_)
           refine pl_ HT_ 25 (some 127) (bb 51 67108863) (h := ?_)
           refine pl_ HT_ 26 (some 128) (bb 51 134217727) (h := ?_)
           refine pl_ HT_ 27 (some 129) (bb 51 268435455) (h := ?_)
           refine pl_ HT_ 28 (some 130) (bb 51 536870911) (h := ?_)
           refine pl_ HT_ 29 (some 131) (bb 51 1073741823) (h := ?_)
           refine pl_ HT_ 30 (some 132) (bb 51 2147483647) (h := ?_)
           refine pl_ HT_ 31 (some 133) (bb 51 4294967295) (h := ?_)
           refine pl_ HT_ 32 (some 134) (bb 51 8589934591) (h := ?_)
           refine pl_ HT_ 33 (some 135) (bb 51 17179869183) (h := ?_)
           refine pl_ HT_ 34 (some 136) (bb 51 34359738367) (h := ?_)
           refine pl_ HT_ 35 (some 137) (bb 51 68719476735) (h := ?_)
           refine pl_ HT_ 36 (some 138) (bb 51 137438953471) (h := ?_)
           refine pl_ HT_ 37 (some 139) (bb 51 274877906943) (h := ?_)
           refine pl_ HT_ 38 (some 140) (bb 51 549755813887) (h := ?_)
           refine pl_ HT_ 39 (some 141) (bb 51 1099511627775) (h := ?_)
           refine pr_ HT_ 40 (some 142) (bb 51 2199023255551) (h := ?_)
           refine pr_ HT_ 41 (some 143) (bb 51 4398046511103) (h := ?_)
           refine pr_ HT_ 42 (some 144) (bb 51 8796093022207) (h := ?_)
           refine pl_ HT_ 43 (some 145) (bb 51 17592186044415) (h := ?_)
           refine pl_ HT_ 44 (some 146) (bb 51 35184372088831) (h := ?_)
           refine pr_ HT_ 45 (some 147) (bb 51 70368744177663) (h := ?_)
           refine pr_ HT_ 46 (some 148) (bb 51 140737488355327) (h := ?_)
           refine pr_ HT_ 47 (some 149) (bb 51 281474976710655) (h := ?_)
           refine pr_ HT_ 48 (some 150) (bb 51 562949953421311) (h := ?_)
           refine pr_ HT_ 49 (some 151) (bb 51 1125899906842623) (h := ?_)
           refine pl_ HT_ 50 (some 152) (bb 51 2251799813685247) (h := ?_)
           refine done_ (done_of HT_.out (by kernel_rfl)) ?_
           try go_wp2
           go_meet
           case rel => exact ⟨_, (true), (by first | rfl | (simp; done) | (simp [*]; done)), H', ⟨by first | omega | exact Nat.le_refl _⟩, ⟨Kd.R_p HO557⟩, ⟨Kd.R_pp (Kd.R_mono HO561.out (fun _ hk => ⟨hk.1, ⟨hk.2.1, ⟨hk.2.2.2.1, hk.2.2.2.2⟩⟩⟩))⟩, ⟨Kd.R_pp (Kd.R_mono HO565.out (fun _ hk => ⟨hk.1, ⟨hk.2.1, ⟨hk.2.2.2.1, hk.2.2.2.2⟩⟩⟩))⟩, ⟨Kd.R_p HO586⟩, ⟨Kd.R_p HO589⟩, ⟨Kd.R_p HO592⟩, ⟨kp_ BK558⟩, ⟨kp_ BK594⟩, ⟨kp_ BK599⟩, ⟨kp_ BK604⟩, ⟨hb_ HB⟩⟩
           )
           exact p4_
          ·rw [if_neg c74] at H
           have c74b0 : (t598 != t603) = false := by simpa using c74
           (try (have c74b1 : decide (t598 = t603) = true := by simpa using c74))
           (try (have c74b2 : (t598 == t603) = true := by simpa using c74))
           clear c74
           by_cases c79 : (!(t595 == t600) || (!(t596 == t601) || (!(t597 == t602)))) = true
           ·refine ?z5_
            let rec p5_ : type_of% ?z5_ := by(
            rw [if_pos c79] at H
            have c79b0 : (!(t595 == t600) || (!(t596 == t601) || (!(t597 == t602)))) = true := c79
            clear c79
            have H' := Aside0.mk H
            clear H
            try go_wp2
            have n0_ : Aside0 (Kd.R (Kd.int .i64) 3 (((w50.setCell ⟨gb604, 0, none⟩ (.int .i64 t600)).setCell ⟨gb604, 1, none⟩ (.int .i64 t601)).setCell ⟨gb604, 2, none⟩ (.int .i64 t602)) w.heap.size (fun k_ => some k_ ≠ (.slice Ao39 t584.length co39 : Value).ownBlock ∧ some k_ ≠ (.slice Ao40 t587.length co40 : Value).ownBlock ∧ some k_ ≠ (.slice Ao41 t590.length co41 : Value).ownBlock) (.slice Ao19 t555.length co19) t555) := ⟨Kd.R_mono (Kd.R_s HO557 BK604) (fun _ hk => ⟨hk.1.1.2, ⟨hk.1.2, hk.2⟩⟩)⟩
            have n1_ : Aside0 (Kd.R k29 29 (((w50.setCell ⟨gb604, 0, none⟩ (.int .i64 t600)).setCell ⟨gb604, 1, none⟩ (.int .i64 t601)).setCell ⟨gb604, 2, none⟩ (.int .i64 t602)) w.heap.size (fun k_ => some k_ ≠ (v564 : Value).ownBlock ∧ k_ ≠ gb558 ∧ k_ ≠ gb570 ∧ k_ ≠ gb599 ∧ k_ ≠ gb604) v560 t559) := ⟨Kd.R_pp (Kd.R_mono (Kd.R_far (p := ⟨gb604, 2, none⟩) (Kd.R_far (p := ⟨gb604, 1, none⟩) (Kd.R_far (p := ⟨gb604, 0, none⟩) (Kd.R_mono HO561.out (fun k_ hk => (⟨hk, hk.2⟩ : _ ∧ k_ ≠ gb604))) (fun _ hk => hk.2) (.int .i64 t600)) (fun _ hk => hk.2) (.int .i64 t601)) (fun _ hk => hk.2) (.int .i64 t602)) (fun _ hk => ⟨hk.1.1.1.1.2, ⟨hk.1.1.1.1.1.2, ⟨hk.1.1.1.2, ⟨hk.1.1.2, hk.1.2⟩⟩⟩⟩))⟩
            have n2_ : Aside0 (Kd.R k29 29 (((w50.setCell ⟨gb604, 0, none⟩ (.int .i64 t600)).setCell ⟨gb604, 1, none⟩ (.int .i64 t601)).setCell ⟨gb604, 2, none⟩ (.int .i64 t602)) w.heap.size (fun k_ => some k_ ≠ (v560 : Value).ownBlock ∧ k_ ≠ gb558 ∧ k_ ≠ gb570 ∧ k_ ≠ gb599 ∧ k_ ≠ gb604) v564 t563) := ⟨Kd.R_pp (Kd.R_mono (Kd.R_far (p := ⟨gb604, 2, none⟩) (Kd.R_far (p := ⟨gb604, 1, none⟩) (Kd.R_far (p := ⟨gb604, 0, none⟩) (Kd.R_mono HO565.out (fun k_ hk => (⟨hk, hk.2⟩ : _ ∧ k_ ≠ gb604))) (fun _ hk => hk.2) (.int .i64 t600)) (fun _ hk => hk.2) (.int .i64 t601)) (fun _ hk => hk.2) (.int .i64 t602)) (fun _ hk => ⟨hk.1.1.1.1.1.2, ⟨hk.1.1.1.1.2, ⟨hk.1.1.1.2, ⟨hk.1.1.2, hk.1.2⟩⟩⟩⟩))⟩
            have n3_ : Aside0 (Kd.R (Kd.int .i64) 3 (((w50.setCell ⟨gb604, 0, none⟩ (.int .i64 t600)).setCell ⟨gb604, 1, none⟩ (.int .i64 t601)).setCell ⟨gb604, 2, none⟩ (.int .i64 t602)) w.heap.size (fun k_ => some k_ ≠ (.slice Ao19 t555.length co19 : Value).ownBlock ∧ some k_ ≠ (.slice Ao40 t587.length co40 : Value).ownBlock ∧ some k_ ≠ (.slice Ao41 t590.length co41 : Value).ownBlock) (.slice Ao39 t584.length co39) t584) := ⟨Kd.R_mono (Kd.R_s HO586 BK604) (fun _ hk => ⟨hk.2, ⟨hk.1.1, hk.1.2⟩⟩)⟩
            have n4_ : Aside0 (Kd.R (Kd.int .i64) 3 (((w50.setCell ⟨gb604, 0, none⟩ (.int .i64 t600)).setCell ⟨gb604, 1, none⟩ (.int .i64 t601)).setCell ⟨gb604, 2, none⟩ (.int .i64 t602)) w.heap.size (fun k_ => some k_ ≠ (.slice Ao19 t555.length co19 : Value).ownBlock ∧ some k_ ≠ (.slice Ao39 t584.length co39 : Value).ownBlock ∧ some k_ ≠ (.slice Ao41 t590.length co41 : Value).ownBlock) (.slice Ao40 t587.length co40) t587) := ⟨Kd.R_mono (Kd.R_s HO589 BK604) (fun _ hk => ⟨hk.2, ⟨hk.1.1, hk.1.2⟩⟩)⟩
            have n5_ : Aside0 (Kd.R (Kd.int .i64) 3 (((w50.setCell ⟨gb604, 0, none⟩ (.int .i64 t600)).setCell ⟨gb604, 1, none⟩ (.int .i64 t601)).setCell ⟨gb604, 2, none⟩ (.int .i64 t602)) w.heap.size (fun k_ => some k_ ≠ (.slice Ao19 t555.length co19 : Value).ownBlock ∧ some k_ ≠ (.slice Ao39 t584.length co39 : Value).ownBlock ∧ some k_ ≠ (.slice Ao40 t587.length co40 : Value).ownBlock) (.slice Ao41 t590.length co41) t590) := ⟨Kd.R_mono (Kd.R_s HO592 BK604) (fun _ hk => ⟨hk.2, ⟨hk.1.1, hk.1.2⟩⟩)⟩
            have n6_ : Aside0 ((((w50.setCell ⟨gb604, 0, none⟩ (.int .i64 t600)).setCell ⟨gb604, 1, none⟩ (.int .i64 t601)).setCell ⟨gb604, 2, none⟩ (.int .i64 t602)).heap[gb558]? = some (.cells #[.int .i64 t552, .int .i64 t553, .int .i64 t554] 29 (0, 0))) := ⟨kf_ BK558 NB558_604⟩
            have n7_ : Aside0 ((((w50.setCell ⟨gb604, 0, none⟩ (.int .i64 t600)).setCell ⟨gb604, 1, none⟩ (.int .i64 t601)).setCell ⟨gb604, 2, none⟩ (.int .i64 t602)).heap[gb570]? = some (.cells #[.int .i64 t567, .int .i64 t568, .int .i64 t569] 29 (0, 0))) := ⟨kf_ BK570 NB570_604⟩
            have n8_ : Aside0 ((((w50.setCell ⟨gb604, 0, none⟩ (.int .i64 t600)).setCell ⟨gb604, 1, none⟩ (.int .i64 t601)).setCell ⟨gb604, 2, none⟩ (.int .i64 t602)).heap[gb594]? = some (.cells #[.int .i64 t581, .int .i64 t582, .int .i64 t583, .slice Ao39 t584.length co39, .slice Ao40 t587.length co40, .slice Ao41 t590.length co41] 34 (0, 0))) := ⟨kf_ BK594 NB594_604⟩
            have n9_ : Aside0 ((((w50.setCell ⟨gb604, 0, none⟩ (.int .i64 t600)).setCell ⟨gb604, 1, none⟩ (.int .i64 t601)).setCell ⟨gb604, 2, none⟩ (.int .i64 t602)).heap[gb599]? = some (.cells #[.int .i64 t595, .int .i64 t596, .int .i64 t597] 29 (0, 0))) := ⟨kf_ BK599 NB599_604⟩
            have n10_ : Aside0 ((((w50.setCell ⟨gb604, 0, none⟩ (.int .i64 t600)).setCell ⟨gb604, 1, none⟩ (.int .i64 t601)).setCell ⟨gb604, 2, none⟩ (.int .i64 t602)).heap[gb604]? = some (.cells #[.int .i64 t600, .int .i64 t601, .int .i64 t602] 29 (0, 0))) := ⟨kpq_ (kputs BK604 [(0, _), (1, _), (2, _)])⟩
            have n11_ : Aside0 (Below w.heap.size w (((w50.setCell ⟨gb604, 0, none⟩ (.int .i64 t600)).setCell ⟨gb604, 1, none⟩ (.int .i64 t601)).setCell ⟨gb604, 2, none⟩ (.int .i64 t602))) := ⟨hb_ HB⟩
            (try clear HO557)
            (try clear HO561)
            (try clear HO565)
            (try clear HO586)
            (try clear HO589)
            (try clear HO592)
            (try clear BK558)
            (try clear BK570)
            (try clear BK594)
            (try clear BK599)
            (try clear BK604)
            (try clear HB)
            generalize (((w50.setCell ⟨gb604, 0, none⟩ (.int .i64 t600)).setCell ⟨gb604, 1, none⟩ (.int .i64 t601)).setCell ⟨gb604, 2, none⟩ (.int .i64 t602)) = w80 at n0_ n1_ n2_ n3_ n4_ n5_ n6_ n7_ n8_ n9_ n10_ n11_ ⊢
            have HO557 := n0_
            have HO561 := n1_
            have HO565 := n2_
            have HO586 := n3_
            have HO589 := n4_
            have HO592 := n5_
            have BK558 := n6_
            have BK570 := n7_
            have BK594 := n8_
            have BK599 := n9_
            have BK604 := n10_
            have HB := n11_
            clear n0_ n1_ n2_ n3_ n4_ n5_ n6_ n7_ n8_ n9_ n10_ n11_
            have n0_ := Aside0.mk (Kd.R_drew HO557.out)
            have n1_ := Aside0.mk (Kd.R_drew HO561.out)
            have n2_ := Aside0.mk (Kd.R_drew HO565.out)
            have n3_ := Aside0.mk (Kd.R_drew HO586.out)
            have n4_ := Aside0.mk (Kd.R_drew HO589.out)
            have n5_ := Aside0.mk (Kd.R_drew HO592.out)
            have n6_ := Aside0.mk (blk_drew BK558.out)
            have n7_ := Aside0.mk (blk_drew BK570.out)
            have n8_ := Aside0.mk (blk_drew BK594.out)
            have n9_ := Aside0.mk (blk_drew BK599.out)
            have n10_ := Aside0.mk (blk_drew BK604.out)
            have n11_ := Aside0.mk (below_drew1 HB.out)
            clear HO557
            clear HO561
            clear HO565
            clear HO586
            clear HO589
            clear HO592
            clear BK558
            clear BK570
            clear BK594
            clear BK599
            clear BK604
            clear HB
            have HO557 := n0_
            have HO561 := n1_
            have HO565 := n2_
            have HO586 := n3_
            have HO589 := n4_
            have HO592 := n5_
            have BK558 := n6_
            have BK570 := n7_
            have BK594 := n8_
            have BK599 := n9_
            have BK604 := n10_
            have HB := n11_
            clear n0_ n1_ n2_ n3_ n4_ n5_ n6_ n7_ n8_ n9_ n10_ n11_
            obtain ⟨Ao82, co82, eo82⟩ := Kd.R_slice HO561.out
            (first | subst eo82 | (injection eo82 with f1_ f2_ f3_; have f4_ := f1_.symm; have f5_ := f3_.symm; clear f1_ f2_ f3_; subst f4_; subst f5_))
            obtain ⟨Ao83, co83, eo83⟩ := Kd.R_slice HO565.out
            (first | subst eo83 | (injection eo83 with f1_ f2_ f3_; have f4_ := f1_.symm; have f5_ := f3_.symm; clear f1_ f2_ f3_; subst f4_; subst f5_))
            refine start_ (n := 51) (S := fun w' => w'.cell? ⟨gb599, 0, none⟩ = some (.int .i64 t595) ∧ w'.cell? ⟨gb599, 1, none⟩ = some (.int .i64 t596) ∧ w'.cell? ⟨gb599, 2, none⟩ = some (.int .i64 t597) ∧ w'.cell? ⟨gb604, 0, none⟩ = some (.int .i64 t600) ∧ w'.cell? ⟨gb604, 1, none⟩ = some (.int .i64 t601) ∧ w'.cell? ⟨gb604, 2, none⟩ = some (.int .i64 t602)) (ds := []) (bb 51 0) (by kernel_rfl) rfl rfl ⟨(blk_cell BK599.out 0).trans rfl, (blk_cell BK599.out 1).trans rfl, (blk_cell BK599.out 2).trans rfl, (blk_cell BK604.out 0).trans rfl, (blk_cell BK604.out 1).trans rfl, (blk_cell BK604.out 2).trans rfl⟩ (fun hHeld => ?_); refine with_tabW laws_FnPieces.tab14 laws_FnPieces.bits14 (fun HT_ HW_ => ?_)
            generalize w80.drew = w81 at HO557 HO561 HO565 HO586 HO589 HO592 BK558 BK570 BK594 BK599 BK604 HB hHeld ⊢
            refine pl_ HT_ 0 (some 102) (bb 51 1) (h := ?_)
            refine pl_ HT_ 1 (some 103) (bb 51 3) (h := ?_)
            refine pl_ HT_ 2 (some 104) (bb 51 7) (h := ?_)
            refine pl_ HT_ 3 (some 105) (bb 51 15) (h := ?_)
            refine pl_ HT_ 4 (some 106) (bb 51 31) (h := ?_)
            refine pl_ HT_ 5 (some 107) (bb 51 63) (h := ?_)
            refine one_ (i := 6) (N := some 108) (bb 51 127) rfl rfl (one_of HT_.out (by kernel_rfl)) (by decide) (fun K hK => ?_)
            refine goes_ Try.func46 (by kernel_rfl) rfl #[.slice Ao82 t559.length co82, .slice Ao83 t563.length co83] (by rfl) rfl rfl (by (try simp only [List.map_toArray, List.map_cons, List.map_nil]); first | done | rfl | (simp only [List.length_drop, List.length_take]; rfl)) ?_
            with_reducible refine (laws_qPieces.calls k _ _ t559 _ _ t563 true _ ?side1 ?side2 ?side3 ?side4 A59.out).mono ?_
            (case side1 => exact Kd.C_o HO561)
            (case side2 => exact (Kd.R_reads' HO561.out).2.1)
            (case side3 => exact Kd.C_o HO565)
            (case side4 => exact (Kd.R_reads' HO565.out).2.1)
            rintro e w' ⟨rfl, ⟨nd, rfl⟩⟩
            refine ⟨_, rfl, ?_⟩
            refine hK.out _ _ ⟨(blk_cell BK599.out 0).trans rfl, (blk_cell BK599.out 1).trans rfl, (blk_cell BK599.out 2).trans rfl, (blk_cell BK604.out 0).trans rfl, (blk_cell BK604.out 1).trans rfl, (blk_cell BK604.out 2).trans rfl⟩ (fun hHeld => ?_)
            clear hK K
            refine norm_ (a' := ?_) ?_ ?_
            rotate_left
            ·show Act.put _ (some 108) _ = _
             simp only [Act.put, List.setIfInBounds_toArray, List.set_cons_zero, List.set_cons_succ, i64_w, i32_w]
             rfl
            refine pl_ HT_ 7 (some 109) (bb 51 255) (h := ?_)
            refine pl_ HT_ 8 (some 110) (bb 51 511) (h := ?_)
            refine pl_ HT_ 9 (some 111) (bb 51 1023) (h := ?_)
            refine pl_ HT_ 10 (some 112) (bb 51 2047) (h := ?_)
            refine pl_ HT_ 11 (some 113) (bb 51 4095) (h := ?_)
            refine pl_ HT_ 12 (some 114) (bb 51 8191) (h := ?_)
            refine pl_ HT_ 13 (some 115) (bb 51 16383) (h := ?_)
            refine pl_ HT_ 14 (some 116) (bb 51 32767) (h := ?_)
            refine pl_ HT_ 15 (some 117) (bb 51 65535) (h := ?_)
            refine pl_ HT_ 16 (some 118) (bb 51 131071) (h := ?_)
            refine pl_ HT_ 17 (some 119) (bb 51 262143) (h := ?_)
            refine pl_ HT_ 18 (some 120) (bb 51 524287) (h := ?_)
            refine pl_ HT_ 19 (some 121) (bb 51 1048575) (h := ?_)
            refine pl_ HT_ 20 (some 122) (bb 51 2097151) (h := ?_)
            refine pl_ HT_ 21 (some 123) (bb 51 4194303) (h := ?_)
            refine pl_ HT_ 22 (some 124) (bb 51 8388607) (h := ?_)
            refine pl_ HT_ 23 (some 125) (bb 51 16777215) (h := ?_)
            refine pl_ HT_ 24 (some 126) (bb 51 33554431) (h := ?_)
            refine pl_ HT_ 25 (some 127) (bb 51 67108863) (h := ?_)
            refine pl_ HT_ 26 (some 128) (bb 51 134217727) (h := ?_)
            refine pl_ HT_ 27 (some 129) (bb 51 268435455) (h := ?_)
            refine pl_ HT_ 28 (some 130) (bb 51 536870911) (h := ?_)
            refine pl_ HT_ 29 (some 131) (bb 51 1073741823) (h := ?_)
            refine pl_ HT_ 30 (some 132) (bb 51 2147483647) (h := ?_)
            refine pl_ HT_ 31 (some 133) (bb 51 4294967295) (h := ?_)
            refine pl_ HT_ 32 (some 134) (bb 51 8589934591) (h := ?_)
            refine pl_ HT_ 33 (some 135) (bb 51 17179869183) (h := ?_)
            refine pl_ HT_ 34 (some 136) (bb 51 34359738367) (h := ?_)
            refine pl_ HT_ 35 (some 137) (bb 51 68719476735) (h := ?_)
            refine pl_ HT_ 36 (some 138) (bb 51 137438953471) (h := ?_)
            refine pl_ HT_ 37 (some 139) (bb 51 274877906943) (h := ?_)
            refine pl_ HT_ 38 (some 140) (bb 51 549755813887) (h := ?_)
            refine pl_ HT_ 39 (some 141) (bb 51 1099511627775) (h := ?_)
            refine take_ (i := 40) (N := some 142) (v := ?_) (a' := ?_) (bb 51 2199023255551) rfl rfl (take_ofW HT_.out HW_.out (by kernel_rfl)) (fun _ _ _ h => h) (Or.inl ⟨by rfl, ?_⟩) hHeld ?_ ?_
            rotate_left
            ·rintro w' ⟨s0, s1, s2, s3, s4, s5⟩
             go_simp
             with_reducible rfl
            rotate_left
            ·simp only [Act.put, List.setIfInBounds_toArray, List.set_cons_zero, List.set_cons_succ, i64_w, i32_w]
             rfl
            refine take_ (i := 41) (N := some 143) (v := ?_) (a' := ?_) (bb 51 4398046511103) rfl rfl (take_ofW HT_.out HW_.out (by kernel_rfl)) (fun _ _ _ h => h) (Or.inl ⟨by rfl, ?_⟩) hHeld ?_ ?_
            rotate_left
            ·rintro w' ⟨s0, s1, s2, s3, s4, s5⟩
             go_simp
             with_reducible rfl
            rotate_left
            ·simp only [Act.put, List.setIfInBounds_toArray, List.set_cons_zero, List.set_cons_succ, i64_w, i32_w]
             rfl
            refine pl_ HT_ 42 (some 144) (bb 51 8796093022207) (h := ?_)
            refine pl_ HT_ 43 (some 145) (bb 51 17592186044415) (h := ?_)
            refine pl_ HT_ 44 (some 146) (bb 51 35184372088831) (h := ?_)
            refine pr_ HT_ 45 (some 147) (bb 51 70368744177663) (h := ?_)
            refine pr_ HT_ 46 (some 148) (bb 51 140737488355327) (h := ?_)
            refine pr_ HT_ 47 (some 149) (bb 51 281474976710655) (h := ?_)
            refine pr_ HT_ 48 (some 150) (bb 51 562949953421311) (h := ?_)
            refine pr_ HT_ 49 (some 151) (bb 51 1125899906842623) (h := ?_)
            refine pl_ HT_ 50 (some 152) (bb 51 2251799813685247) (h := ?_)
            refine done_ (done_of HT_.out (by kernel_rfl)) ?_
            try go_wp2
            go_meet
            case rel => exact ⟨_, (true), (by first | rfl | (simp; done) | (simp [*]; done)), H', ⟨by first | omega | exact Nat.le_refl _⟩, ⟨Kd.R_p HO557⟩, ⟨Kd.R_pp (Kd.R_mono HO561.out (fun _ hk => ⟨hk.1, ⟨hk.2.1, ⟨hk.2.2.2.1, hk.2.2.2.2⟩⟩⟩))⟩, ⟨Kd.R_pp (Kd.R_mono HO565.out (fun _ hk => ⟨hk.1, ⟨hk.2.1, ⟨hk.2.2.2.1, hk.2.2.2.2⟩⟩⟩))⟩, ⟨Kd.R_p HO586⟩, ⟨Kd.R_p HO589⟩, ⟨Kd.R_p HO592⟩, ⟨kp_ BK558⟩, ⟨kp_ BK594⟩, ⟨kp_ BK599⟩, ⟨kp_ BK604⟩, ⟨hb_ HB⟩⟩
            )
            exact p5_
           ·refine ?z6_
            let rec p6_ : type_of% ?z6_ := by(
            rw [if_neg c79] at H
            have c79b0 : (!(t595 == t600) || (!(t596 == t601) || (!(t597 == t602)))) = false := by simpa using c79
            clear c79
            replace H := Option.bind_eq_some_iff.mp H
            obtain ⟨t606, A840, H⟩ := H
            try dsimp only at H
            have A84 := Aside0.mk A840
            clear A840
            replace H := Option.bind_eq_some_iff.mp H
            obtain ⟨t607, A850, H⟩ := H
            try dsimp only at H
            have A85 := Aside0.mk A850
            clear A850
            have H' := Aside0.mk H
            clear H
            try go_wp2
            have n0_ : Aside0 (Kd.R (Kd.int .i64) 3 (((w50.setCell ⟨gb604, 0, none⟩ (.int .i64 t600)).setCell ⟨gb604, 1, none⟩ (.int .i64 t601)).setCell ⟨gb604, 2, none⟩ (.int .i64 t602)) w.heap.size (fun k_ => some k_ ≠ (.slice Ao39 t584.length co39 : Value).ownBlock ∧ some k_ ≠ (.slice Ao40 t587.length co40 : Value).ownBlock ∧ some k_ ≠ (.slice Ao41 t590.length co41 : Value).ownBlock) (.slice Ao19 t555.length co19) t555) := ⟨Kd.R_mono (Kd.R_s HO557 BK604) (fun _ hk => ⟨hk.1.1.2, ⟨hk.1.2, hk.2⟩⟩)⟩
            have n1_ : Aside0 (Kd.R k29 29 (((w50.setCell ⟨gb604, 0, none⟩ (.int .i64 t600)).setCell ⟨gb604, 1, none⟩ (.int .i64 t601)).setCell ⟨gb604, 2, none⟩ (.int .i64 t602)) w.heap.size (fun k_ => some k_ ≠ (v564 : Value).ownBlock ∧ k_ ≠ gb558 ∧ k_ ≠ gb570 ∧ k_ ≠ gb599 ∧ k_ ≠ gb604) v560 t559) := ⟨Kd.R_pp (Kd.R_mono (Kd.R_far (p := ⟨gb604, 2, none⟩) (Kd.R_far (p := ⟨gb604, 1, none⟩) (Kd.R_far (p := ⟨gb604, 0, none⟩) (Kd.R_mono HO561.out (fun k_ hk => (⟨hk, hk.2⟩ : _ ∧ k_ ≠ gb604))) (fun _ hk => hk.2) (.int .i64 t600)) (fun _ hk => hk.2) (.int .i64 t601)) (fun _ hk => hk.2) (.int .i64 t602)) (fun _ hk => ⟨hk.1.1.1.1.2, ⟨hk.1.1.1.1.1.2, ⟨hk.1.1.1.2, ⟨hk.1.1.2, hk.1.2⟩⟩⟩⟩))⟩
            have n2_ : Aside0 (Kd.R k29 29 (((w50.setCell ⟨gb604, 0, none⟩ (.int .i64 t600)).setCell ⟨gb604, 1, none⟩ (.int .i64 t601)).setCell ⟨gb604, 2, none⟩ (.int .i64 t602)) w.heap.size (fun k_ => some k_ ≠ (v560 : Value).ownBlock ∧ k_ ≠ gb558 ∧ k_ ≠ gb570 ∧ k_ ≠ gb599 ∧ k_ ≠ gb604) v564 t563) := ⟨Kd.R_pp (Kd.R_mono (Kd.R_far (p := ⟨gb604, 2, none⟩) (Kd.R_far (p := ⟨gb604, 1, none⟩) (Kd.R_far (p := ⟨gb604, 0, none⟩) (Kd.R_mono HO565.out (fun k_ hk => (⟨hk, hk.2⟩ : _ ∧ k_ ≠ gb604))) (fun _ hk => hk.2) (.int .i64 t600)) (fun _ hk => hk.2) (.int .i64 t601)) (fun _ hk => hk.2) (.int .i64 t602)) (fun _ hk => ⟨hk.1.1.1.1.1.2, ⟨hk.1.1.1.1.2, ⟨hk.1.1.1.2, ⟨hk.1.1.2, hk.1.2⟩⟩⟩⟩))⟩
            have n3_ : Aside0 (Kd.R (Kd.int .i64) 3 (((w50.setCell ⟨gb604, 0, none⟩ (.int .i64 t600)).setCell ⟨gb604, 1, none⟩ (.int .i64 t601)).setCell ⟨gb604, 2, none⟩ (.int .i64 t602)) w.heap.size (fun k_ => some k_ ≠ (.slice Ao19 t555.length co19 : Value).ownBlock ∧ some k_ ≠ (.slice Ao40 t587.length co40 : Value).ownBlock ∧ some k_ ≠ (.slice Ao41 t590.length co41 : Value).ownBlock) (.slice Ao39 t584.length co39) t584) := ⟨Kd.R_mono (Kd.R_s HO586 BK604) (fun _ hk => ⟨hk.2, ⟨hk.1.1, hk.1.2⟩⟩)⟩
            have n4_ : Aside0 (Kd.R (Kd.int .i64) 3 (((w50.setCell ⟨gb604, 0, none⟩ (.int .i64 t600)).setCell ⟨gb604, 1, none⟩ (.int .i64 t601)).setCell ⟨gb604, 2, none⟩ (.int .i64 t602)) w.heap.size (fun k_ => some k_ ≠ (.slice Ao19 t555.length co19 : Value).ownBlock ∧ some k_ ≠ (.slice Ao39 t584.length co39 : Value).ownBlock ∧ some k_ ≠ (.slice Ao41 t590.length co41 : Value).ownBlock) (.slice Ao40 t587.length co40) t587) := ⟨Kd.R_mono (Kd.R_s HO589 BK604) (fun _ hk => ⟨hk.2, ⟨hk.1.1, hk.1.2⟩⟩)⟩
            have n5_ : Aside0 (Kd.R (Kd.int .i64) 3 (((w50.setCell ⟨gb604, 0, none⟩ (.int .i64 t600)).setCell ⟨gb604, 1, none⟩ (.int .i64 t601)).setCell ⟨gb604, 2, none⟩ (.int .i64 t602)) w.heap.size (fun k_ => some k_ ≠ (.slice Ao19 t555.length co19 : Value).ownBlock ∧ some k_ ≠ (.slice Ao39 t584.length co39 : Value).ownBlock ∧ some k_ ≠ (.slice Ao40 t587.length co40 : Value).ownBlock) (.slice Ao41 t590.length co41) t590) := ⟨Kd.R_mono (Kd.R_s HO592 BK604) (fun _ hk => ⟨hk.2, ⟨hk.1.1, hk.1.2⟩⟩)⟩
            have n6_ : Aside0 ((((w50.setCell ⟨gb604, 0, none⟩ (.int .i64 t600)).setCell ⟨gb604, 1, none⟩ (.int .i64 t601)).setCell ⟨gb604, 2, none⟩ (.int .i64 t602)).heap[gb558]? = some (.cells #[.int .i64 t552, .int .i64 t553, .int .i64 t554] 29 (0, 0))) := ⟨kf_ BK558 NB558_604⟩
            have n7_ : Aside0 ((((w50.setCell ⟨gb604, 0, none⟩ (.int .i64 t600)).setCell ⟨gb604, 1, none⟩ (.int .i64 t601)).setCell ⟨gb604, 2, none⟩ (.int .i64 t602)).heap[gb570]? = some (.cells #[.int .i64 t567, .int .i64 t568, .int .i64 t569] 29 (0, 0))) := ⟨kf_ BK570 NB570_604⟩
            have n8_ : Aside0 ((((w50.setCell ⟨gb604, 0, none⟩ (.int .i64 t600)).setCell ⟨gb604, 1, none⟩ (.int .i64 t601)).setCell ⟨gb604, 2, none⟩ (.int .i64 t602)).heap[gb594]? = some (.cells #[.int .i64 t581, .int .i64 t582, .int .i64 t583, .slice Ao39 t584.length co39, .slice Ao40 t587.length co40, .slice Ao41 t590.length co41] 34 (0, 0))) := ⟨kf_ BK594 NB594_604⟩
            have n9_ : Aside0 ((((w50.setCell ⟨gb604, 0, none⟩ (.int .i64 t600)).setCell ⟨gb604, 1, none⟩ (.int .i64 t601)).setCell ⟨gb604, 2, none⟩ (.int .i64 t602)).heap[gb599]? = some (.cells #[.int .i64 t595, .int .i64 t596, .int .i64 t597] 29 (0, 0))) := ⟨kf_ BK599 NB599_604⟩
            have n10_ : Aside0 ((((w50.setCell ⟨gb604, 0, none⟩ (.int .i64 t600)).setCell ⟨gb604, 1, none⟩ (.int .i64 t601)).setCell ⟨gb604, 2, none⟩ (.int .i64 t602)).heap[gb604]? = some (.cells #[.int .i64 t600, .int .i64 t601, .int .i64 t602] 29 (0, 0))) := ⟨kpq_ (kputs BK604 [(0, _), (1, _), (2, _)])⟩
            have n11_ : Aside0 (Below w.heap.size w (((w50.setCell ⟨gb604, 0, none⟩ (.int .i64 t600)).setCell ⟨gb604, 1, none⟩ (.int .i64 t601)).setCell ⟨gb604, 2, none⟩ (.int .i64 t602))) := ⟨hb_ HB⟩
            (try clear HO557)
            (try clear HO561)
            (try clear HO565)
            (try clear HO586)
            (try clear HO589)
            (try clear HO592)
            (try clear BK558)
            (try clear BK570)
            (try clear BK594)
            (try clear BK599)
            (try clear BK604)
            (try clear HB)
            generalize (((w50.setCell ⟨gb604, 0, none⟩ (.int .i64 t600)).setCell ⟨gb604, 1, none⟩ (.int .i64 t601)).setCell ⟨gb604, 2, none⟩ (.int .i64 t602)) = w86 at n0_ n1_ n2_ n3_ n4_ n5_ n6_ n7_ n8_ n9_ n10_ n11_ ⊢
            have HO557 := n0_
            have HO561 := n1_
            have HO565 := n2_
            have HO586 := n3_
            have HO589 := n4_
            have HO592 := n5_
            have BK558 := n6_
            have BK570 := n7_
            have BK594 := n8_
            have BK599 := n9_
            have BK604 := n10_
            have HB := n11_
            clear n0_ n1_ n2_ n3_ n4_ n5_ n6_ n7_ n8_ n9_ n10_ n11_
            have n0_ := Aside0.mk (Kd.R_drew HO557.out)
            have n1_ := Aside0.mk (Kd.R_drew HO561.out)
            have n2_ := Aside0.mk (Kd.R_drew HO565.out)
            have n3_ := Aside0.mk (Kd.R_drew HO586.out)
            have n4_ := Aside0.mk (Kd.R_drew HO589.out)
            have n5_ := Aside0.mk (Kd.R_drew HO592.out)
            have n6_ := Aside0.mk (blk_drew BK558.out)
            have n7_ := Aside0.mk (blk_drew BK570.out)
            have n8_ := Aside0.mk (blk_drew BK594.out)
            have n9_ := Aside0.mk (blk_drew BK599.out)
            have n10_ := Aside0.mk (blk_drew BK604.out)
            have n11_ := Aside0.mk (below_drew1 HB.out)
            clear HO557
            clear HO561
            clear HO565
            clear HO586
            clear HO589
            clear HO592
            clear BK558
            clear BK570
            clear BK594
            clear BK599
            clear BK604
            clear HB
            have HO557 := n0_
            have HO561 := n1_
            have HO565 := n2_
            have HO586 := n3_
            have HO589 := n4_
            have HO592 := n5_
            have BK558 := n6_
            have BK570 := n7_
            have BK594 := n8_
            have BK599 := n9_
            have BK604 := n10_
            have HB := n11_
            clear n0_ n1_ n2_ n3_ n4_ n5_ n6_ n7_ n8_ n9_ n10_ n11_
            obtain ⟨Ao88, co88, eo88⟩ := Kd.R_slice HO561.out
            (first | subst eo88 | (injection eo88 with f1_ f2_ f3_; have f4_ := f1_.symm; have f5_ := f3_.symm; clear f1_ f2_ f3_; subst f4_; subst f5_))
            obtain ⟨Ao89, co89, eo89⟩ := Kd.R_slice HO565.out
            (first | subst eo89 | (injection eo89 with f1_ f2_ f3_; have f4_ := f1_.symm; have f5_ := f3_.symm; clear f1_ f2_ f3_; subst f4_; subst f5_))
            refine start_ (n := 51) (S := fun w' => w'.cell? ⟨gb599, 0, none⟩ = some (.int .i64 t595) ∧ w'.cell? ⟨gb599, 1, none⟩ = some (.int .i64 t596) ∧ w'.cell? ⟨gb599, 2, none⟩ = some (.int .i64 t597) ∧ w'.cell? ⟨gb604, 0, none⟩ = some (.int .i64 t600) ∧ w'.cell? ⟨gb604, 1, none⟩ = some (.int .i64 t601) ∧ w'.cell? ⟨gb604, 2, none⟩ = some (.int .i64 t602) ∧ w'.cell? ⟨gb570, 0, none⟩ = some (.int .i64 t567) ∧ w'.cell? ⟨gb570, 1, none⟩ = some (.int .i64 t568) ∧ w'.cell? ⟨gb570, 2, none⟩ = some (.int .i64 t569)) (ds := []) (bb 51 0) (by kernel_rfl) rfl rfl ⟨(blk_cell BK599.out 0).trans rfl, (blk_cell BK599.out 1).trans rfl, (blk_cell BK599.out 2).trans rfl, (blk_cell BK604.out 0).trans rfl, (blk_cell BK604.out 1).trans rfl, (blk_cell BK604.out 2).trans rfl, (blk_cell BK570.out 0).trans rfl, (blk_cell BK570.out 1).trans rfl, (blk_cell BK570.out 2).trans rfl⟩ (fun hHeld => ?_); refine with_tabW laws_FnPieces.tab14 laws_FnPieces.bits14 (fun HT_ HW_ => ?_)
            generalize w86.drew = w87 at HO557 HO561 HO565 HO586 HO589 HO592 BK558 BK570 BK594 BK599 BK604 HB hHeld ⊢
            refine pl_ HT_ 0 (some 102) (bb 51 1) (h := ?_)
            refine pl_ HT_ 1 (some 103) (bb 51 3) (h := ?_)
            refine pl_ HT_ 2 (some 104) (bb 51 7) (h := ?_)
            refine pl_ HT_ 3 (some 105) (bb 51 15) (h := ?_)
            refine pl_ HT_ 4 (some 106) (bb 51 31) (h := ?_)
            refine pl_ HT_ 5 (some 107) (bb 51 63) (h := ?_)
            refine one_ (i := 6) (N := some 108) (bb 51 127) rfl rfl (one_of HT_.out (by kernel_rfl)) (by decide) (fun K hK => ?_)
            refine goes_ Try.func46 (by kernel_rfl) rfl #[.slice Ao88 t559.length co88, .slice Ao89 t563.length co89] (by rfl) rfl rfl (by (try simp only [List.map_toArray, List.map_cons, List.map_nil]); first | done | rfl | (simp only [List.length_drop, List.length_take]; rfl)) ?_
            with_reducible refine (laws_qPieces.calls k _ _ t559 _ _ t563 true _ ?side1 ?side2 ?side3 ?side4 A59.out).mono ?_
            (case side1 => exact Kd.C_o HO561)
            (case side2 => exact (Kd.R_reads' HO561.out).2.1)
            (case side3 => exact Kd.C_o HO565)
            (case side4 => exact (Kd.R_reads' HO565.out).2.1)
            rintro e w' ⟨rfl, ⟨nd, rfl⟩⟩
            refine ⟨_, rfl, ?_⟩
            refine hK.out _ _ ⟨(blk_cell BK599.out 0).trans rfl, (blk_cell BK599.out 1).trans rfl, (blk_cell BK599.out 2).trans rfl, (blk_cell BK604.out 0).trans rfl, (blk_cell BK604.out 1).trans rfl, (blk_cell BK604.out 2).trans rfl, (blk_cell BK570.out 0).trans rfl, (blk_cell BK570.out 1).trans rfl, (blk_cell BK570.out 2).trans rfl⟩ (fun hHeld => ?_)
            clear hK K
            refine norm_ (a' := ?_) ?_ ?_
            rotate_left
            ·show Act.put _ (some 108) _ = _
             simp only [Act.put, List.setIfInBounds_toArray, List.set_cons_zero, List.set_cons_succ, i64_w, i32_w]
             rfl
            refine pl_ HT_ 7 (some 109) (bb 51 255) (h := ?_)
            refine pl_ HT_ 8 (some 110) (bb 51 511) (h := ?_)
            refine pl_ HT_ 9 (some 111) (bb 51 1023) (h := ?_)
            refine pl_ HT_ 10 (some 112) (bb 51 2047) (h := ?_)
            refine pl_ HT_ 11 (some 113) (bb 51 4095) (h := ?_)
            refine pl_ HT_ 12 (some 114) (bb 51 8191) (h := ?_)
            refine pl_ HT_ 13 (some 115) (bb 51 16383) (h := ?_)
            refine pl_ HT_ 14 (some 116) (bb 51 32767) (h := ?_)
            refine pl_ HT_ 15 (some 117) (bb 51 65535) (h := ?_)
            refine pl_ HT_ 16 (some 118) (bb 51 131071) (h := ?_)
            refine pl_ HT_ 17 (some 119) (bb 51 262143) (h := ?_)
            refine pl_ HT_ 18 (some 120) (bb 51 524287) (h := ?_)
            refine pl_ HT_ 19 (some 121) (bb 51 1048575) (h := ?_)
            refine pl_ HT_ 20 (some 122) (bb 51 2097151) (h := ?_)
            refine pl_ HT_ 21 (some 123) (bb 51 4194303) (h := ?_)
            refine pl_ HT_ 22 (some 124) (bb 51 8388607) (h := ?_)
            refine pl_ HT_ 23 (some 125) (bb 51 16777215) (h := ?_)
            refine pl_ HT_ 24 (some 126) (bb 51 33554431) (h := ?_)
            refine pl_ HT_ 25 (some 127) (bb 51 67108863) (h := ?_)
            refine pl_ HT_ 26 (some 128) (bb 51 134217727) (h := ?_)
            refine pl_ HT_ 27 (some 129) (bb 51 268435455) (h := ?_)
            refine pl_ HT_ 28 (some 130) (bb 51 536870911) (h := ?_)
            refine pl_ HT_ 29 (some 131) (bb 51 1073741823) (h := ?_)
            refine pl_ HT_ 30 (some 132) (bb 51 2147483647) (h := ?_)
            refine pl_ HT_ 31 (some 133) (bb 51 4294967295) (h := ?_)
            refine pl_ HT_ 32 (some 134) (bb 51 8589934591) (h := ?_)
            refine pl_ HT_ 33 (some 135) (bb 51 17179869183) (h := ?_)
            refine pl_ HT_ 34 (some 136) (bb 51 34359738367) (h := ?_)
            refine pl_ HT_ 35 (some 137) (bb 51 68719476735) (h := ?_)
            refine pl_ HT_ 36 (some 138) (bb 51 137438953471) (h := ?_)
            refine pl_ HT_ 37 (some 139) (bb 51 274877906943) (h := ?_)
            refine pl_ HT_ 38 (some 140) (bb 51 549755813887) (h := ?_)
            refine pl_ HT_ 39 (some 141) (bb 51 1099511627775) (h := ?_)
            refine take_ (i := 40) (N := some 142) (v := ?_) (a' := ?_) (bb 51 2199023255551) rfl rfl (take_ofW HT_.out HW_.out (by kernel_rfl)) (fun _ _ _ h => h) (Or.inl ⟨by rfl, ?_⟩) hHeld ?_ ?_
            rotate_left
            ·rintro w' ⟨s0, s1, s2, s3, s4, s5, s6, s7, s8⟩
             go_simp
             with_reducible rfl
            rotate_left
            ·simp only [Act.put, List.setIfInBounds_toArray, List.set_cons_zero, List.set_cons_succ, i64_w, i32_w]
             rfl
            refine take_ (i := 41) (N := some 143) (v := ?_) (a' := ?_) (bb 51 4398046511103) rfl rfl (take_ofW HT_.out HW_.out (by kernel_rfl)) (fun _ _ _ h => h) (Or.inl ⟨by rfl, ?_⟩) hHeld ?_ ?_
            rotate_left
            ·rintro w' ⟨s0, s1, s2, s3, s4, s5, s6, s7, s8⟩
             go_simp
             with_reducible rfl
            rotate_left
            ·simp only [Act.put, List.setIfInBounds_toArray, List.set_cons_zero, List.set_cons_succ, i64_w, i32_w]
             rfl
            refine pl_ HT_ 42 (some 144) (bb 51 8796093022207) (h := ?_)
            refine pl_ HT_ 43 (some 145) (bb 51 17592186044415) (h := ?_)
            refine pl_ HT_ 44 (some 146) (bb 51 35184372088831) (h := ?_)
            refine take_ (i := 45) (N := some 147) (v := ?_) (a' := ?_) (bb 51 70368744177663) rfl rfl (take_ofW HT_.out HW_.out (by kernel_rfl)) (fun _ _ _ h => h) (Or.inl ⟨by rfl, ?_⟩) hHeld ?_ ?_
            rotate_left
            ·rintro w' ⟨s0, s1, s2, s3, s4, s5, s6, s7, s8⟩
             go_simp
             with_reducible rfl
            rotate_left
            ·simp only [Act.put, List.setIfInBounds_toArray, List.set_cons_zero, List.set_cons_succ, i64_w, i32_w]
             rfl
            refine take_ (i := 47) (N := some 149) (v := ?_) (a' := ?_) (bb 51 211106232532991) rfl rfl (take_ofW HT_.out HW_.out (by kernel_rfl)) (fun _ _ _ h => h) (Or.inl ⟨by rfl, ?_⟩) hHeld ?_ ?_
            rotate_left
            ·rintro w' ⟨s0, s1, s2, s3, s4, s5, s6, s7, s8⟩
             go_simp
             with_reducible rfl
            rotate_left
            ·simp only [Act.put, List.setIfInBounds_toArray, List.set_cons_zero, List.set_cons_succ, i64_w, i32_w]
             rfl
            refine one_ (i := 46) (N := some 148) (bb 51 281474976710655) rfl rfl (one_of HT_.out (by kernel_rfl)) (by decide) (fun K hK => ?_)
            refine goes_ Try.func47 (by kernel_rfl) rfl #[.agg #[.int .i64 t567, .int .i64 t568, .int .i64 t569]] (by rfl) rfl rfl (by (try simp only [List.map_toArray, List.map_cons, List.map_nil]); first | done | rfl | (simp only [List.length_drop, List.length_take]; rfl)) ?_
            with_reducible refine (impl_IsPiece.calls t567 t568 t569 t606 _ A84.out).mono ?_
            rintro e w90 ⟨rfl, hb⟩
            refine ⟨_, rfl, ?_⟩
            have n0_ := Aside0.mk (Kd.R_below (Kd.R_p HO557) hb)
            have n1_ := Aside0.mk (Kd.R_below (Kd.R_p HO561) hb)
            have n2_ := Aside0.mk (Kd.R_below (Kd.R_p HO565) hb)
            have n3_ := Aside0.mk (Kd.R_below (Kd.R_p HO586) hb)
            have n4_ := Aside0.mk (Kd.R_below (Kd.R_p HO589) hb)
            have n5_ := Aside0.mk (Kd.R_below (Kd.R_p HO592) hb)
            have n6_ := Aside0.mk (blk_below (kp_ BK558) hb)
            have n7_ := Aside0.mk (blk_below (kp_ BK570) hb)
            have n8_ := Aside0.mk (blk_below (kp_ BK594) hb)
            have n9_ := Aside0.mk (blk_below (kp_ BK599) hb)
            have n10_ := Aside0.mk (blk_below (kp_ BK604) hb)
            have n11_ := Aside0.mk (below_step (hb_ HB) hb)
            clear HO557
            clear HO561
            clear HO565
            clear HO586
            clear HO589
            clear HO592
            clear BK558
            clear BK570
            clear BK594
            clear BK599
            clear BK604
            clear HB
            have HO557 := n0_
            have HO561 := n1_
            have HO565 := n2_
            have HO586 := n3_
            have HO589 := n4_
            have HO592 := n5_
            have BK558 := n6_
            have BK570 := n7_
            have BK594 := n8_
            have BK599 := n9_
            have BK604 := n10_
            have HB := n11_
            clear n0_ n1_ n2_ n3_ n4_ n5_ n6_ n7_ n8_ n9_ n10_ n11_
            (try clear hb)
            (try clear hb2)
            (try clear hk)
            (try clear hi)
            refine hK.out _ _ ⟨(blk_cell BK599.out 0).trans rfl, (blk_cell BK599.out 1).trans rfl, (blk_cell BK599.out 2).trans rfl, (blk_cell BK604.out 0).trans rfl, (blk_cell BK604.out 1).trans rfl, (blk_cell BK604.out 2).trans rfl, (blk_cell BK570.out 0).trans rfl, (blk_cell BK570.out 1).trans rfl, (blk_cell BK570.out 2).trans rfl⟩ (fun hHeld => ?_)
            clear hK K
            refine norm_ (a' := ?_) ?_ ?_
            rotate_left
            ·show Act.put _ (some 148) _ = _
             simp only [Act.put, List.setIfInBounds_toArray, List.set_cons_zero, List.set_cons_succ, i64_w, i32_w]
             rfl
            refine one_ (i := 48) (N := some 150) (bb 51 562949953421311) rfl rfl (one_of HT_.out (by kernel_rfl)) (by decide) (fun K hK => ?_)
            refine goes_ Try.func48 (by kernel_rfl) rfl #[.agg #[.int .i64 t567, .int .i64 t568, .int .i64 t569]] (by rfl) rfl rfl (by (try simp only [List.map_toArray, List.map_cons, List.map_nil]); first | done | rfl | (simp only [List.length_drop, List.length_take]; rfl)) ?_
            with_reducible refine (spec_IsPiece.calls t567 t568 t569 t607 _ A85.out).mono ?_
            rintro e w91 ⟨rfl, hb⟩
            refine ⟨_, rfl, ?_⟩
            have n0_ := Aside0.mk (Kd.R_below (Kd.R_p HO557) hb)
            have n1_ := Aside0.mk (Kd.R_below (Kd.R_p HO561) hb)
            have n2_ := Aside0.mk (Kd.R_below (Kd.R_p HO565) hb)
            have n3_ := Aside0.mk (Kd.R_below (Kd.R_p HO586) hb)
            have n4_ := Aside0.mk (Kd.R_below (Kd.R_p HO589) hb)
            have n5_ := Aside0.mk (Kd.R_below (Kd.R_p HO592) hb)
            have n6_ := Aside0.mk (blk_below (kp_ BK558) hb)
            have n7_ := Aside0.mk (blk_below (kp_ BK570) hb)
            have n8_ := Aside0.mk (blk_below (kp_ BK594) hb)
            have n9_ := Aside0.mk (blk_below (kp_ BK599) hb)
            have n10_ := Aside0.mk (blk_below (kp_ BK604) hb)
            have n11_ := Aside0.mk (below_step (hb_ HB) hb)
            clear HO557
            clear HO561
            clear HO565
            clear HO586
            clear HO589
            clear HO592
            clear BK558
            clear BK570
            clear BK594
            clear BK599
            clear BK604
            clear HB
            have HO557 := n0_
            have HO561 := n1_
            have HO565 := n2_
            have HO586 := n3_
            have HO589 := n4_
            have HO592 := n5_
            have BK558 := n6_
            have BK570 := n7_
            have BK594 := n8_
            have BK599 := n9_
            have BK604 := n10_
            have HB := n11_
            clear n0_ n1_ n2_ n3_ n4_ n5_ n6_ n7_ n8_ n9_ n10_ n11_
            (try clear hb)
            (try clear hb2)
            (try clear hk)
            (try clear hi)
            refine hK.out _ _ ⟨(blk_cell BK599.out 0).trans rfl, (blk_cell BK599.out 1).trans rfl, (blk_cell BK599.out 2).trans rfl, (blk_cell BK604.out 0).trans rfl, (blk_cell BK604.out 1).trans rfl, (blk_cell BK604.out 2).trans rfl, (blk_cell BK570.out 0).trans rfl, (blk_cell BK570.out 1).trans rfl, (blk_cell BK570.out 2).trans rfl⟩ (fun hHeld => ?_)
            clear hK K
            refine norm_ (a' := ?_) ?_ ?_
            rotate_left
            ·show Act.put _ (some 150) _ = _
             simp only [Act.put, List.setIfInBounds_toArray, List.set_cons_zero, List.set_cons_succ, i64_w, i32_w]
             rfl
            refine pl_ HT_ 49 (some 151) (bb 51 1125899906842623) (h := ?_)
            refine pl_ HT_ 50 (some 152) (bb 51 2251799813685247) (h := ?_)
            refine done_ (done_of HT_.out (by kernel_rfl)) ?_
            try go_wp2
            go_meet
            case rel => exact ⟨_, ((t606 != t607)), (by first | rfl | (simp; done) | (simp [*]; done)), H', ⟨by first | omega | exact Nat.le_refl _⟩, ⟨Kd.R_p HO557⟩, ⟨Kd.R_pp (Kd.R_mono HO561.out (fun _ hk => ⟨hk.1, ⟨hk.2.1, ⟨hk.2.2.2.1, hk.2.2.2.2⟩⟩⟩))⟩, ⟨Kd.R_pp (Kd.R_mono HO565.out (fun _ hk => ⟨hk.1, ⟨hk.2.1, ⟨hk.2.2.2.1, hk.2.2.2.2⟩⟩⟩))⟩, ⟨Kd.R_p HO586⟩, ⟨Kd.R_p HO589⟩, ⟨Kd.R_p HO592⟩, ⟨kp_ BK558⟩, ⟨kp_ BK594⟩, ⟨kp_ BK599⟩, ⟨kp_ BK604⟩, ⟨hb_ HB⟩⟩
            )
            exact p6_
         ·refine ?z7_
          let rec p7_ : type_of% ?z7_ := by(
          rw [if_neg c73] at H
          have c73b0 : (t576 == t579) = false := beq_eq_false_iff_ne.mpr c73
          have c73b1 : (t576 != t579) = true := bne_iff_ne.mpr c73
          have H' := Aside0.mk H
          clear H
          try go_wp2
          have n0_ : Aside0 (Kd.R (Kd.int .i64) 3 (((w50.setCell ⟨gb604, 0, none⟩ (.int .i64 t600)).setCell ⟨gb604, 1, none⟩ (.int .i64 t601)).setCell ⟨gb604, 2, none⟩ (.int .i64 t602)) w.heap.size (fun k_ => some k_ ≠ (.slice Ao39 t584.length co39 : Value).ownBlock ∧ some k_ ≠ (.slice Ao40 t587.length co40 : Value).ownBlock ∧ some k_ ≠ (.slice Ao41 t590.length co41 : Value).ownBlock) (.slice Ao19 t555.length co19) t555) := ⟨Kd.R_mono (Kd.R_s HO557 BK604) (fun _ hk => ⟨hk.1.1.2, ⟨hk.1.2, hk.2⟩⟩)⟩
          have n1_ : Aside0 (Kd.R k29 29 (((w50.setCell ⟨gb604, 0, none⟩ (.int .i64 t600)).setCell ⟨gb604, 1, none⟩ (.int .i64 t601)).setCell ⟨gb604, 2, none⟩ (.int .i64 t602)) w.heap.size (fun k_ => some k_ ≠ (v564 : Value).ownBlock ∧ k_ ≠ gb558 ∧ k_ ≠ gb570 ∧ k_ ≠ gb599 ∧ k_ ≠ gb604) v560 t559) := ⟨Kd.R_pp (Kd.R_mono (Kd.R_far (p := ⟨gb604, 2, none⟩) (Kd.R_far (p := ⟨gb604, 1, none⟩) (Kd.R_far (p := ⟨gb604, 0, none⟩) (Kd.R_mono HO561.out (fun k_ hk => (⟨hk, hk.2⟩ : _ ∧ k_ ≠ gb604))) (fun _ hk => hk.2) (.int .i64 t600)) (fun _ hk => hk.2) (.int .i64 t601)) (fun _ hk => hk.2) (.int .i64 t602)) (fun _ hk => ⟨hk.1.1.1.1.2, ⟨hk.1.1.1.1.1.2, ⟨hk.1.1.1.2, ⟨hk.1.1.2, hk.1.2⟩⟩⟩⟩))⟩
          have n2_ : Aside0 (Kd.R k29 29 (((w50.setCell ⟨gb604, 0, none⟩ (.int .i64 t600)).setCell ⟨gb604, 1, none⟩ (.int .i64 t601)).setCell ⟨gb604, 2, none⟩ (.int .i64 t602)) w.heap.size (fun k_ => some k_ ≠ (v560 : Value).ownBlock ∧ k_ ≠ gb558 ∧ k_ ≠ gb570 ∧ k_ ≠ gb599 ∧ k_ ≠ gb604) v564 t563) := ⟨Kd.R_pp (Kd.R_mono (Kd.R_far (p := ⟨gb604, 2, none⟩) (Kd.R_far (p := ⟨gb604, 1, none⟩) (Kd.R_far (p := ⟨gb604, 0, none⟩) (Kd.R_mono HO565.out (fun k_ hk => (⟨hk, hk.2⟩ : _ ∧ k_ ≠ gb604))) (fun _ hk => hk.2) (.int .i64 t600)) (fun _ hk => hk.2) (.int .i64 t601)) (fun _ hk => hk.2) (.int .i64 t602)) (fun _ hk => ⟨hk.1.1.1.1.1.2, ⟨hk.1.1.1.1.2, ⟨hk.1.1.1.2, ⟨hk.1.1.2, hk.1.2⟩⟩⟩⟩))⟩
          have n3_ : Aside0 (Kd.R (Kd.int .i64) 3 (((w50.setCell ⟨gb604, 0, none⟩ (.int .i64 t600)).setCell ⟨gb604, 1, none⟩ (.int .i64 t601)).setCell ⟨gb604, 2, none⟩ (.int .i64 t602)) w.heap.size (fun k_ => some k_ ≠ (.slice Ao19 t555.length co19 : Value).ownBlock ∧ some k_ ≠ (.slice Ao40 t587.length co40 : Value).ownBlock ∧ some k_ ≠ (.slice Ao41 t590.length co41 : Value).ownBlock) (.slice Ao39 t584.length co39) t584) := ⟨Kd.R_mono (Kd.R_s HO586 BK604) (fun _ hk => ⟨hk.2, ⟨hk.1.1, hk.1.2⟩⟩)⟩
          have n4_ : Aside0 (Kd.R (Kd.int .i64) 3 (((w50.setCell ⟨gb604, 0, none⟩ (.int .i64 t600)).setCell ⟨gb604, 1, none⟩ (.int .i64 t601)).setCell ⟨gb604, 2, none⟩ (.int .i64 t602)) w.heap.size (fun k_ => some k_ ≠ (.slice Ao19 t555.length co19 : Value).ownBlock ∧ some k_ ≠ (.slice Ao39 t584.length co39 : Value).ownBlock ∧ some k_ ≠ (.slice Ao41 t590.length co41 : Value).ownBlock) (.slice Ao40 t587.length co40) t587) := ⟨Kd.R_mono (Kd.R_s HO589 BK604) (fun _ hk => ⟨hk.2, ⟨hk.1.1, hk.1.2⟩⟩)⟩
          have n5_ : Aside0 (Kd.R (Kd.int .i64) 3 (((w50.setCell ⟨gb604, 0, none⟩ (.int .i64 t600)).setCell ⟨gb604, 1, none⟩ (.int .i64 t601)).setCell ⟨gb604, 2, none⟩ (.int .i64 t602)) w.heap.size (fun k_ => some k_ ≠ (.slice Ao19 t555.length co19 : Value).ownBlock ∧ some k_ ≠ (.slice Ao39 t584.length co39 : Value).ownBlock ∧ some k_ ≠ (.slice Ao40 t587.length co40 : Value).ownBlock) (.slice Ao41 t590.length co41) t590) := ⟨Kd.R_mono (Kd.R_s HO592 BK604) (fun _ hk => ⟨hk.2, ⟨hk.1.1, hk.1.2⟩⟩)⟩
          have n6_ : Aside0 ((((w50.setCell ⟨gb604, 0, none⟩ (.int .i64 t600)).setCell ⟨gb604, 1, none⟩ (.int .i64 t601)).setCell ⟨gb604, 2, none⟩ (.int .i64 t602)).heap[gb558]? = some (.cells #[.int .i64 t552, .int .i64 t553, .int .i64 t554] 29 (0, 0))) := ⟨kf_ BK558 NB558_604⟩
          have n7_ : Aside0 ((((w50.setCell ⟨gb604, 0, none⟩ (.int .i64 t600)).setCell ⟨gb604, 1, none⟩ (.int .i64 t601)).setCell ⟨gb604, 2, none⟩ (.int .i64 t602)).heap[gb570]? = some (.cells #[.int .i64 t567, .int .i64 t568, .int .i64 t569] 29 (0, 0))) := ⟨kf_ BK570 NB570_604⟩
          have n8_ : Aside0 ((((w50.setCell ⟨gb604, 0, none⟩ (.int .i64 t600)).setCell ⟨gb604, 1, none⟩ (.int .i64 t601)).setCell ⟨gb604, 2, none⟩ (.int .i64 t602)).heap[gb594]? = some (.cells #[.int .i64 t581, .int .i64 t582, .int .i64 t583, .slice Ao39 t584.length co39, .slice Ao40 t587.length co40, .slice Ao41 t590.length co41] 34 (0, 0))) := ⟨kf_ BK594 NB594_604⟩
          have n9_ : Aside0 ((((w50.setCell ⟨gb604, 0, none⟩ (.int .i64 t600)).setCell ⟨gb604, 1, none⟩ (.int .i64 t601)).setCell ⟨gb604, 2, none⟩ (.int .i64 t602)).heap[gb599]? = some (.cells #[.int .i64 t595, .int .i64 t596, .int .i64 t597] 29 (0, 0))) := ⟨kf_ BK599 NB599_604⟩
          have n10_ : Aside0 ((((w50.setCell ⟨gb604, 0, none⟩ (.int .i64 t600)).setCell ⟨gb604, 1, none⟩ (.int .i64 t601)).setCell ⟨gb604, 2, none⟩ (.int .i64 t602)).heap[gb604]? = some (.cells #[.int .i64 t600, .int .i64 t601, .int .i64 t602] 29 (0, 0))) := ⟨kpq_ (kputs BK604 [(0, _), (1, _), (2, _)])⟩
          have n11_ : Aside0 (Below w.heap.size w (((w50.setCell ⟨gb604, 0, none⟩ (.int .i64 t600)).setCell ⟨gb604, 1, none⟩ (.int .i64 t601)).setCell ⟨gb604, 2, none⟩ (.int .i64 t602))) := ⟨hb_ HB⟩
          (try clear HO557)
          (try clear HO561)
          (try clear HO565)
          (try clear HO586)
          (try clear HO589)
          (try clear HO592)
          (try clear BK558)
          (try clear BK570)
          (try clear BK594)
          (try clear BK599)
          (try clear BK604)
          (try clear HB)
          generalize (((w50.setCell ⟨gb604, 0, none⟩ (.int .i64 t600)).setCell ⟨gb604, 1, none⟩ (.int .i64 t601)).setCell ⟨gb604, 2, none⟩ (.int .i64 t602)) = w92 at n0_ n1_ n2_ n3_ n4_ n5_ n6_ n7_ n8_ n9_ n10_ n11_ ⊢
          have HO557 := n0_
          have HO561 := n1_
          have HO565 := n2_
          have HO586 := n3_
          have HO589 := n4_
          have HO592 := n5_
          have BK558 := n6_
          have BK570 := n7_
          have BK594 := n8_
          have BK599 := n9_
          have BK604 := n10_
          have HB := n11_
          clear n0_ n1_ n2_ n3_ n4_ n5_ n6_ n7_ n8_ n9_ n10_ n11_
          have n0_ := Aside0.mk (Kd.R_drew HO557.out)
          have n1_ := Aside0.mk (Kd.R_drew HO561.out)
          have n2_ := Aside0.mk (Kd.R_drew HO565.out)
          have n3_ := Aside0.mk (Kd.R_drew HO586.out)
          have n4_ := Aside0.mk (Kd.R_drew HO589.out)
          have n5_ := Aside0.mk (Kd.R_drew HO592.out)
          have n6_ := Aside0.mk (blk_drew BK558.out)
          have n7_ := Aside0.mk (blk_drew BK570.out)
          have n8_ := Aside0.mk (blk_drew BK594.out)
          have n9_ := Aside0.mk (blk_drew BK599.out)
          have n10_ := Aside0.mk (blk_drew BK604.out)
          have n11_ := Aside0.mk (below_drew1 HB.out)
          clear HO557
          clear HO561
          clear HO565
          clear HO586
          clear HO589
          clear HO592
          clear BK558
          clear BK570
          clear BK594
          clear BK599
          clear BK604
          clear HB
          have HO557 := n0_
          have HO561 := n1_
          have HO565 := n2_
          have HO586 := n3_
          have HO589 := n4_
          have HO592 := n5_
          have BK558 := n6_
          have BK570 := n7_
          have BK594 := n8_
          have BK599 := n9_
          have BK604 := n10_
          have HB := n11_
          clear n0_ n1_ n2_ n3_ n4_ n5_ n6_ n7_ n8_ n9_ n10_ n11_
          obtain ⟨Ao94, co94, eo94⟩ := Kd.R_slice HO561.out
          (first | subst eo94 | (injection eo94 with f1_ f2_ f3_; have f4_ := f1_.symm; have f5_ := f3_.symm; clear f1_ f2_ f3_; subst f4_; subst f5_))
          obtain ⟨Ao95, co95, eo95⟩ := Kd.R_slice HO565.out
          (first | subst eo95 | (injection eo95 with f1_ f2_ f3_; have f4_ := f1_.symm; have f5_ := f3_.symm; clear f1_ f2_ f3_; subst f4_; subst f5_))
          refine start_ (n := 51) (S := fun w' => True) (ds := []) (bb 51 0) (by kernel_rfl) rfl rfl trivial (fun hHeld => ?_); refine with_tabW laws_FnPieces.tab14 laws_FnPieces.bits14 (fun HT_ HW_ => ?_)
          generalize w92.drew = w93 at HO557 HO561 HO565 HO586 HO589 HO592 BK558 BK570 BK594 BK599 BK604 HB hHeld ⊢
          refine pl_ HT_ 0 (some 102) (bb 51 1) (h := ?_)
          refine pl_ HT_ 1 (some 103) (bb 51 3) (h := ?_)
          refine pl_ HT_ 2 (some 104) (bb 51 7) (h := ?_)
          refine pl_ HT_ 3 (some 105) (bb 51 15) (h := ?_)
          refine pl_ HT_ 4 (some 106) (bb 51 31) (h := ?_)
          refine pl_ HT_ 5 (some 107) (bb 51 63) (h := ?_)
          refine one_ (i := 6) (N := some 108) (bb 51 127) rfl rfl (one_of HT_.out (by kernel_rfl)) (by decide) (fun K hK => ?_)
          refine goes_ Try.func46 (by kernel_rfl) rfl #[.slice Ao94 t559.length co94, .slice Ao95 t563.length co95] (by rfl) rfl rfl (by (try simp only [List.map_toArray, List.map_cons, List.map_nil]); first | done | rfl | (simp only [List.length_drop, List.length_take]; rfl)) ?_
          with_reducible refine (laws_qPieces.calls k _ _ t559 _ _ t563 true _ ?side1 ?side2 ?side3 ?side4 A59.out).mono ?_
          (case side1 => exact Kd.C_o HO561)
          (case side2 => exact (Kd.R_reads' HO561.out).2.1)
          (case side3 => exact Kd.C_o HO565)
          (case side4 => exact (Kd.R_reads' HO565.out).2.1)
          rintro e w' ⟨rfl, ⟨nd, rfl⟩⟩
          refine ⟨_, rfl, ?_⟩
          refine hK.out _ _ trivial (fun hHeld => ?_)
          clear hK K
          refine norm_ (a' := ?_) ?_ ?_
          rotate_left
          ·show Act.put _ (some 108) _ = _
           simp only [Act.put, List.setIfInBounds_toArray, List.set_cons_zero, List.set_cons_succ, i64_w, i32_w]
           rfl
          refine pl_ HT_ 7 (some 109) (bb 51 255) (h := ?_)
          refine pl_ HT_ 8 (some 110) (bb 51 511) (h := ?_)
          refine pl_ HT_ 9 (some 111) (bb 51 1023) (h := ?_)
          refine pl_ HT_ 10 (some 112) (bb 51 2047) (h := ?_)
          refine pl_ HT_ 11 (some 113) (bb 51 4095) (h := ?_)
          refine pl_ HT_ 12 (some 114) (bb 51 8191) (h := ?_)
          refine pl_ HT_ 13 (some 115) (bb 51 16383) (h := ?_)
          refine pl_ HT_ 14 (some 116) (bb 51 32767) (h := ?_)
          refine pl_ HT_ 15 (some 117) (bb 51 65535) (h := ?_)
          refine pl_ HT_ 16 (some 118) (bb 51 131071) (h := ?_)
          refine pl_ HT_ 17 (some 119) (bb 51 262143) (h := ?_)
          refine pl_ HT_ 18 (some 120) (bb 51 524287) (h := ?_)
          refine pl_ HT_ 19 (some 121) (bb 51 1048575) (h := ?_)
          refine pl_ HT_ 20 (some 122) (bb 51 2097151) (h := ?_)
          refine pl_ HT_ 21 (some 123) (bb 51 4194303) (h := ?_)
          refine pl_ HT_ 22 (some 124) (bb 51 8388607) (h := ?_)
          refine pl_ HT_ 23 (some 125) (bb 51 16777215) (h := ?_)
          refine pl_ HT_ 24 (some 126) (bb 51 33554431) (h := ?_)
          refine pl_ HT_ 25 (some 127) (bb 51 67108863) (h := ?_)
          refine pl_ HT_ 26 (some 128) (bb 51 134217727) (h := ?_)
          refine pl_ HT_ 27 (some 129) (bb 51 268435455) (h := ?_)
          refine pl_ HT_ 28 (some 130) (bb 51 536870911) (h := ?_)
          refine pl_ HT_ 29 (some 131) (bb 51 1073741823) (h := ?_)
          refine pl_ HT_ 30 (some 132) (bb 51 2147483647) (h := ?_)
          refine pl_ HT_ 31 (some 133) (bb 51 4294967295) (h := ?_)
          refine pl_ HT_ 32 (some 134) (bb 51 8589934591) (h := ?_)
          refine pl_ HT_ 33 (some 135) (bb 51 17179869183) (h := ?_)
          refine pl_ HT_ 34 (some 136) (bb 51 34359738367) (h := ?_)
          refine pr_ HT_ 35 (some 137) (bb 51 68719476735) (h := ?_)
          refine pr_ HT_ 36 (some 138) (bb 51 137438953471) (h := ?_)
          refine pr_ HT_ 37 (some 139) (bb 51 274877906943) (h := ?_)
          refine pl_ HT_ 38 (some 140) (bb 51 549755813887) (h := ?_)
          refine pl_ HT_ 39 (some 141) (bb 51 1099511627775) (h := ?_)
          refine pr_ HT_ 40 (some 142) (bb 51 2199023255551) (h := ?_)
          refine pr_ HT_ 41 (some 143) (bb 51 4398046511103) (h := ?_)
          refine pr_ HT_ 42 (some 144) (bb 51 8796093022207) (h := ?_)
          refine pl_ HT_ 43 (some 145) (bb 51 17592186044415) (h := ?_)
          refine pl_ HT_ 44 (some 146) (bb 51 35184372088831) (h := ?_)
          refine pr_ HT_ 45 (some 147) (bb 51 70368744177663) (h := ?_)
          refine pr_ HT_ 46 (some 148) (bb 51 140737488355327) (h := ?_)
          refine pr_ HT_ 47 (some 149) (bb 51 281474976710655) (h := ?_)
          refine pr_ HT_ 48 (some 150) (bb 51 562949953421311) (h := ?_)
          refine pr_ HT_ 49 (some 151) (bb 51 1125899906842623) (h := ?_)
          refine pl_ HT_ 50 (some 152) (bb 51 2251799813685247) (h := ?_)
          refine done_ (done_of HT_.out (by kernel_rfl)) ?_
          try go_wp2
          go_meet
          case rel => exact ⟨_, (true), (by first | rfl | (simp; done) | (simp [*]; done)), H', ⟨by first | omega | exact Nat.le_refl _⟩, ⟨Kd.R_p HO557⟩, ⟨Kd.R_pp (Kd.R_mono HO561.out (fun _ hk => ⟨hk.1, ⟨hk.2.1, ⟨hk.2.2.2.1, hk.2.2.2.2⟩⟩⟩))⟩, ⟨Kd.R_pp (Kd.R_mono HO565.out (fun _ hk => ⟨hk.1, ⟨hk.2.1, ⟨hk.2.2.2.1, hk.2.2.2.2⟩⟩⟩))⟩, ⟨Kd.R_p HO586⟩, ⟨Kd.R_p HO589⟩, ⟨Kd.R_p HO592⟩, ⟨kp_ BK558⟩, ⟨kp_ BK594⟩, ⟨kp_ BK599⟩, ⟨kp_ BK604⟩, ⟨hb_ HB⟩⟩
          )
          exact p7_
        ·refine ?z8_
         let rec p8_ : type_of% ?z8_ := by(
         rw [if_neg c72] at H
         have c72b0 : (t575 == t578) = false := beq_eq_false_iff_ne.mpr c72
         have c72b1 : (t575 != t578) = true := bne_iff_ne.mpr c72
         have H' := Aside0.mk H
         clear H
         try go_wp2
         have n0_ : Aside0 (Kd.R (Kd.int .i64) 3 (((w50.setCell ⟨gb604, 0, none⟩ (.int .i64 t600)).setCell ⟨gb604, 1, none⟩ (.int .i64 t601)).setCell ⟨gb604, 2, none⟩ (.int .i64 t602)) w.heap.size (fun k_ => some k_ ≠ (.slice Ao39 t584.length co39 : Value).ownBlock ∧ some k_ ≠ (.slice Ao40 t587.length co40 : Value).ownBlock ∧ some k_ ≠ (.slice Ao41 t590.length co41 : Value).ownBlock) (.slice Ao19 t555.length co19) t555) := ⟨Kd.R_mono (Kd.R_s HO557 BK604) (fun _ hk => ⟨hk.1.1.2, ⟨hk.1.2, hk.2⟩⟩)⟩
         have n1_ : Aside0 (Kd.R k29 29 (((w50.setCell ⟨gb604, 0, none⟩ (.int .i64 t600)).setCell ⟨gb604, 1, none⟩ (.int .i64 t601)).setCell ⟨gb604, 2, none⟩ (.int .i64 t602)) w.heap.size (fun k_ => some k_ ≠ (v564 : Value).ownBlock ∧ k_ ≠ gb558 ∧ k_ ≠ gb570 ∧ k_ ≠ gb599 ∧ k_ ≠ gb604) v560 t559) := ⟨Kd.R_pp (Kd.R_mono (Kd.R_far (p := ⟨gb604, 2, none⟩) (Kd.R_far (p := ⟨gb604, 1, none⟩) (Kd.R_far (p := ⟨gb604, 0, none⟩) (Kd.R_mono HO561.out (fun k_ hk => (⟨hk, hk.2⟩ : _ ∧ k_ ≠ gb604))) (fun _ hk => hk.2) (.int .i64 t600)) (fun _ hk => hk.2) (.int .i64 t601)) (fun _ hk => hk.2) (.int .i64 t602)) (fun _ hk => ⟨hk.1.1.1.1.2, ⟨hk.1.1.1.1.1.2, ⟨hk.1.1.1.2, ⟨hk.1.1.2, hk.1.2⟩⟩⟩⟩))⟩
         have n2_ : Aside0 (Kd.R k29 29 (((w50.setCell ⟨gb604, 0, none⟩ (.int .i64 t600)).setCell ⟨gb604, 1, none⟩ (.int .i64 t601)).setCell ⟨gb604, 2, none⟩ (.int .i64 t602)) w.heap.size (fun k_ => some k_ ≠ (v560 : Value).ownBlock ∧ k_ ≠ gb558 ∧ k_ ≠ gb570 ∧ k_ ≠ gb599 ∧ k_ ≠ gb604) v564 t563) := ⟨Kd.R_pp (Kd.R_mono (Kd.R_far (p := ⟨gb604, 2, none⟩) (Kd.R_far (p := ⟨gb604, 1, none⟩) (Kd.R_far (p := ⟨gb604, 0, none⟩) (Kd.R_mono HO565.out (fun k_ hk => (⟨hk, hk.2⟩ : _ ∧ k_ ≠ gb604))) (fun _ hk => hk.2) (.int .i64 t600)) (fun _ hk => hk.2) (.int .i64 t601)) (fun _ hk => hk.2) (.int .i64 t602)) (fun _ hk => ⟨hk.1.1.1.1.1.2, ⟨hk.1.1.1.1.2, ⟨hk.1.1.1.2, ⟨hk.1.1.2, hk.1.2⟩⟩⟩⟩))⟩
         have n3_ : Aside0 (Kd.R (Kd.int .i64) 3 (((w50.setCell ⟨gb604, 0, none⟩ (.int .i64 t600)).setCell ⟨gb604, 1, none⟩ (.int .i64 t601)).setCell ⟨gb604, 2, none⟩ (.int .i64 t602)) w.heap.size (fun k_ => some k_ ≠ (.slice Ao19 t555.length co19 : Value).ownBlock ∧ some k_ ≠ (.slice Ao40 t587.length co40 : Value).ownBlock ∧ some k_ ≠ (.slice Ao41 t590.length co41 : Value).ownBlock) (.slice Ao39 t584.length co39) t584) := ⟨Kd.R_mono (Kd.R_s HO586 BK604) (fun _ hk => ⟨hk.2, ⟨hk.1.1, hk.1.2⟩⟩)⟩
         have n4_ : Aside0 (Kd.R (Kd.int .i64) 3 (((w50.setCell ⟨gb604, 0, none⟩ (.int .i64 t600)).setCell ⟨gb604, 1, none⟩ (.int .i64 t601)).setCell ⟨gb604, 2, none⟩ (.int .i64 t602)) w.heap.size (fun k_ => some k_ ≠ (.slice Ao19 t555.length co19 : Value).ownBlock ∧ some k_ ≠ (.slice Ao39 t584.length co39 : Value).ownBlock ∧ some k_ ≠ (.slice Ao41 t590.length co41 : Value).ownBlock) (.slice Ao40 t587.length co40) t587) := ⟨Kd.R_mono (Kd.R_s HO589 BK604) (fun _ hk => ⟨hk.2, ⟨hk.1.1, hk.1.2⟩⟩)⟩
         have n5_ : Aside0 (Kd.R (Kd.int .i64) 3 (((w50.setCell ⟨gb604, 0, none⟩ (.int .i64 t600)).setCell ⟨gb604, 1, none⟩ (.int .i64 t601)).setCell ⟨gb604, 2, none⟩ (.int .i64 t602)) w.heap.size (fun k_ => some k_ ≠ (.slice Ao19 t555.length co19 : Value).ownBlock ∧ some k_ ≠ (.slice Ao39 t584.length co39 : Value).ownBlock ∧ some k_ ≠ (.slice Ao40 t587.length co40 : Value).ownBlock) (.slice Ao41 t590.length co41) t590) := ⟨Kd.R_mono (Kd.R_s HO592 BK604) (fun _ hk => ⟨hk.2, ⟨hk.1.1, hk.1.2⟩⟩)⟩
         have n6_ : Aside0 ((((w50.setCell ⟨gb604, 0, none⟩ (.int .i64 t600)).setCell ⟨gb604, 1, none⟩ (.int .i64 t601)).setCell ⟨gb604, 2, none⟩ (.int .i64 t602)).heap[gb558]? = some (.cells #[.int .i64 t552, .int .i64 t553, .int .i64 t554] 29 (0, 0))) := ⟨kf_ BK558 NB558_604⟩
         have n7_ : Aside0 ((((w50.setCell ⟨gb604, 0, none⟩ (.int .i64 t600)).setCell ⟨gb604, 1, none⟩ (.int .i64 t601)).setCell ⟨gb604, 2, none⟩ (.int .i64 t602)).heap[gb570]? = some (.cells #[.int .i64 t567, .int .i64 t568, .int .i64 t569] 29 (0, 0))) := ⟨kf_ BK570 NB570_604⟩
         have n8_ : Aside0 ((((w50.setCell ⟨gb604, 0, none⟩ (.int .i64 t600)).setCell ⟨gb604, 1, none⟩ (.int .i64 t601)).setCell ⟨gb604, 2, none⟩ (.int .i64 t602)).heap[gb594]? = some (.cells #[.int .i64 t581, .int .i64 t582, .int .i64 t583, .slice Ao39 t584.length co39, .slice Ao40 t587.length co40, .slice Ao41 t590.length co41] 34 (0, 0))) := ⟨kf_ BK594 NB594_604⟩
         have n9_ : Aside0 ((((w50.setCell ⟨gb604, 0, none⟩ (.int .i64 t600)).setCell ⟨gb604, 1, none⟩ (.int .i64 t601)).setCell ⟨gb604, 2, none⟩ (.int .i64 t602)).heap[gb599]? = some (.cells #[.int .i64 t595, .int .i64 t596, .int .i64 t597] 29 (0, 0))) := ⟨kf_ BK599 NB599_604⟩
         have n10_ : Aside0 ((((w50.setCell ⟨gb604, 0, none⟩ (.int .i64 t600)).setCell ⟨gb604, 1, none⟩ (.int .i64 t601)).setCell ⟨gb604, 2, none⟩ (.int .i64 t602)).heap[gb604]? = some (.cells #[.int .i64 t600, .int .i64 t601, .int .i64 t602] 29 (0, 0))) := ⟨kpq_ (kputs BK604 [(0, _), (1, _), (2, _)])⟩
         have n11_ : Aside0 (Below w.heap.size w (((w50.setCell ⟨gb604, 0, none⟩ (.int .i64 t600)).setCell ⟨gb604, 1, none⟩ (.int .i64 t601)).setCell ⟨gb604, 2, none⟩ (.int .i64 t602))) := ⟨hb_ HB⟩
         (try clear HO557)
         (try clear HO561)
         (try clear HO565)
         (try clear HO586)
         (try clear HO589)
         (try clear HO592)
         (try clear BK558)
         (try clear BK570)
         (try clear BK594)
         (try clear BK599)
         (try clear BK604)
         (try clear HB)
         generalize (((w50.setCell ⟨gb604, 0, none⟩ (.int .i64 t600)).setCell ⟨gb604, 1, none⟩ (.int .i64 t601)).setCell ⟨gb604, 2, none⟩ (.int .i64 t602)) = w96 at n0_ n1_ n2_ n3_ n4_ n5_ n6_ n7_ n8_ n9_ n10_ n11_ ⊢
         have HO557 := n0_
         have HO561 := n1_
         have HO565 := n2_
         have HO586 := n3_
         have HO589 := n4_
         have HO592 := n5_
         have BK558 := n6_
         have BK570 := n7_
         have BK594 := n8_
         have BK599 := n9_
         have BK604 := n10_
         have HB := n11_
         clear n0_ n1_ n2_ n3_ n4_ n5_ n6_ n7_ n8_ n9_ n10_ n11_
         have n0_ := Aside0.mk (Kd.R_drew HO557.out)
         have n1_ := Aside0.mk (Kd.R_drew HO561.out)
         have n2_ := Aside0.mk (Kd.R_drew HO565.out)
         have n3_ := Aside0.mk (Kd.R_drew HO586.out)
         have n4_ := Aside0.mk (Kd.R_drew HO589.out)
         have n5_ := Aside0.mk (Kd.R_drew HO592.out)
         have n6_ := Aside0.mk (blk_drew BK558.out)
         have n7_ := Aside0.mk (blk_drew BK570.out)
         have n8_ := Aside0.mk (blk_drew BK594.out)
         have n9_ := Aside0.mk (blk_drew BK599.out)
         have n10_ := Aside0.mk (blk_drew BK604.out)
         have n11_ := Aside0.mk (below_drew1 HB.out)
         clear HO557
         clear HO561
         clear HO565
         clear HO586
         clear HO589
         clear HO592
         clear BK558
         clear BK570
         clear BK594
         clear BK599
         clear BK604
         clear HB
         have HO557 := n0_
         have HO561 := n1_
         have HO565 := n2_
         have HO586 := n3_
         have HO589 := n4_
         have HO592 := n5_
         have BK558 := n6_
         have BK570 := n7_
         have BK594 := n8_
         have BK599 := n9_
         have BK604 := n10_
         have HB := n11_
         clear n0_ n1_ n2_ n3_ n4_ n5_ n6_ n7_ n8_ n9_ n10_ n11_
         obtain ⟨Ao98, co98, eo98⟩ := Kd.R_slice HO561.out
         (first | subst eo98 | (injection eo98 with f1_ f2_ f3_; have f4_ := f1_.symm; have f5_ := f3_.symm; clear f1_ f2_ f3_; subst f4_; subst f5_))
         obtain ⟨Ao99, co99, eo99⟩ := Kd.R_slice HO565.out
         (first | subst eo99 | (injection eo99 with f1_ f2_ f3_; have f4_ := f1_.symm; have f5_ := f3_.symm; clear f1_ f2_ f3_; subst f4_; subst f5_))
         refine start_ (n := 51) (S := fun w' => True) (ds := []) (bb 51 0) (by kernel_rfl) rfl rfl trivial (fun hHeld => ?_); refine with_tabW laws_FnPieces.tab14 laws_FnPieces.bits14 (fun HT_ HW_ => ?_)
         generalize w96.drew = w97 at HO557 HO561 HO565 HO586 HO589 HO592 BK558 BK570 BK594 BK599 BK604 HB hHeld ⊢
         refine pl_ HT_ 0 (some 102) (bb 51 1) (h := ?_)
         refine pl_ HT_ 1 (some 103) (bb 51 3) (h := ?_)
         refine pl_ HT_ 2 (some 104) (bb 51 7) (h := ?_)
         refine pl_ HT_ 3 (some 105) (bb 51 15) (h := ?_)
         refine pl_ HT_ 4 (some 106) (bb 51 31) (h := ?_)
         refine pl_ HT_ 5 (some 107) (bb 51 63) (h := ?_)
         refine one_ (i := 6) (N := some 108) (bb 51 127) rfl rfl (one_of HT_.out (by kernel_rfl)) (by decide) (fun K hK => ?_)
         refine goes_ Try.func46 (by kernel_rfl) rfl #[.slice Ao98 t559.length co98, .slice Ao99 t563.length co99] (by rfl) rfl rfl (by (try simp only [List.map_toArray, List.map_cons, List.map_nil]); first | done | rfl | (simp only [List.length_drop, List.length_take]; rfl)) ?_
         with_reducible refine (laws_qPieces.calls k _ _ t559 _ _ t563 true _ ?side1 ?side2 ?side3 ?side4 A59.out).mono ?_
         (case side1 => exact Kd.C_o HO561)
         (case side2 => exact (Kd.R_reads' HO561.out).2.1)
         (case side3 => exact Kd.C_o HO565)
         (case side4 => exact (Kd.R_reads' HO565.out).2.1)
         rintro e w' ⟨rfl, ⟨nd, rfl⟩⟩
         refine ⟨_, rfl, ?_⟩
         refine hK.out _ _ trivial (fun hHeld => ?_)
         clear hK K
         refine norm_ (a' := ?_) ?_ ?_
         rotate_left
         ·show Act.put _ (some 108) _ = _
          simp only [Act.put, List.setIfInBounds_toArray, List.set_cons_zero, List.set_cons_succ, i64_w, i32_w]
          rfl
         refine pl_ HT_ 7 (some 109) (bb 51 255) (h := ?_)
         refine pl_ HT_ 8 (some 110) (bb 51 511) (h := ?_)
         refine pl_ HT_ 9 (some 111) (bb 51 1023) (h := ?_)
         refine pl_ HT_ 10 (some 112) (bb 51 2047) (h := ?_)
         refine pl_ HT_ 11 (some 113) (bb 51 4095) (h := ?_)
         refine pl_ HT_ 12 (some 114) (bb 51 8191) (h := ?_)
         refine pl_ HT_ 13 (some 115) (bb 51 16383) (h := ?_)
         refine pl_ HT_ 14 (some 116) (bb 51 32767) (h := ?_)
         refine pl_ HT_ 15 (some 117) (bb 51 65535) (h := ?_)
         refine pl_ HT_ 16 (some 118) (bb 51 131071) (h := ?_)
         refine pl_ HT_ 17 (some 119) (bb 51 262143) (h := ?_)
         refine pl_ HT_ 18 (some 120) (bb 51 524287) (h := ?_)
         refine pl_ HT_ 19 (some 121) (bb 51 1048575) (h := ?_)
         refine pl_ HT_ 20 (some 122) (bb 51 2097151) (h := ?_)
         refine pl_ HT_ 21 (some 123) (bb 51 4194303) (h := ?_)
         refine pl_ HT_ 22 (some 124) (bb 51 8388607) (h := ?_)
         refine pl_ HT_ 23 (some 125) (bb 51 16777215) (h := ?_)
         refine pl_ HT_ 24 (some 126) (bb 51 33554431) (h := ?_)
         refine pl_ HT_ 25 (some 127) (bb 51 67108863) (h := ?_)
         refine pl_ HT_ 26 (some 128) (bb 51 134217727) (h := ?_)
         refine pl_ HT_ 27 (some 129) (bb 51 268435455) (h := ?_)
         refine pl_ HT_ 28 (some 130) (bb 51 536870911) (h := ?_)
         refine pl_ HT_ 29 (some 131) (bb 51 1073741823) (h := ?_)
         refine pr_ HT_ 30 (some 132) (bb 51 2147483647) (h := ?_)
         refine pr_ HT_ 31 (some 133) (bb 51 4294967295) (h := ?_)
         refine pr_ HT_ 32 (some 134) (bb 51 8589934591) (h := ?_)
         refine pl_ HT_ 33 (some 135) (bb 51 17179869183) (h := ?_)
         refine pl_ HT_ 34 (some 136) (bb 51 34359738367) (h := ?_)
         refine pr_ HT_ 35 (some 137) (bb 51 68719476735) (h := ?_)
         refine pr_ HT_ 36 (some 138) (bb 51 137438953471) (h := ?_)
         refine pr_ HT_ 37 (some 139) (bb 51 274877906943) (h := ?_)
         refine pl_ HT_ 38 (some 140) (bb 51 549755813887) (h := ?_)
         refine pl_ HT_ 39 (some 141) (bb 51 1099511627775) (h := ?_)
         refine pr_ HT_ 40 (some 142) (bb 51 2199023255551) (h := ?_)
         refine pr_ HT_ 41 (some 143) (bb 51 4398046511103) (h := ?_)
         refine pr_ HT_ 42 (some 144) (bb 51 8796093022207) (h := ?_)
         refine pl_ HT_ 43 (some 145) (bb 51 17592186044415) (h := ?_)
         refine pl_ HT_ 44 (some 146) (bb 51 35184372088831) (h := ?_)
         refine pr_ HT_ 45 (some 147) (bb 51 70368744177663) (h := ?_)
         refine pr_ HT_ 46 (some 148) (bb 51 140737488355327) (h := ?_)
         refine pr_ HT_ 47 (some 149) (bb 51 281474976710655) (h := ?_)
         refine pr_ HT_ 48 (some 150) (bb 51 562949953421311) (h := ?_)
         refine pr_ HT_ 49 (some 151) (bb 51 1125899906842623) (h := ?_)
         refine pl_ HT_ 50 (some 152) (bb 51 2251799813685247) (h := ?_)
         refine done_ (done_of HT_.out (by kernel_rfl)) ?_
         try go_wp2
         go_meet
         case rel => exact ⟨_, (true), (by first | rfl | (simp; done) | (simp [*]; done)), H', ⟨by first | omega | exact Nat.le_refl _⟩, ⟨Kd.R_p HO557⟩, ⟨Kd.R_pp (Kd.R_mono HO561.out (fun _ hk => ⟨hk.1, ⟨hk.2.1, ⟨hk.2.2.2.1, hk.2.2.2.2⟩⟩⟩))⟩, ⟨Kd.R_pp (Kd.R_mono HO565.out (fun _ hk => ⟨hk.1, ⟨hk.2.1, ⟨hk.2.2.2.1, hk.2.2.2.2⟩⟩⟩))⟩, ⟨Kd.R_p HO586⟩, ⟨Kd.R_p HO589⟩, ⟨Kd.R_p HO592⟩, ⟨kp_ BK558⟩, ⟨kp_ BK594⟩, ⟨kp_ BK599⟩, ⟨kp_ BK604⟩, ⟨hb_ HB⟩⟩
         )
         exact p8_
      ·refine ?z9_
       let rec p9_ : type_of% ?z9_ := by(
       rw [if_neg c66] at H
       have c66b0 : (t571 == t573) = false := beq_eq_false_iff_ne.mpr c66
       have c66b1 : (t571 != t573) = true := bne_iff_ne.mpr c66
       have H' := Aside0.mk H
       clear H
       try go_wp2
       have n0_ : Aside0 (Kd.R (Kd.int .i64) 3 (((w50.setCell ⟨gb604, 0, none⟩ (.int .i64 t600)).setCell ⟨gb604, 1, none⟩ (.int .i64 t601)).setCell ⟨gb604, 2, none⟩ (.int .i64 t602)) w.heap.size (fun k_ => some k_ ≠ (.slice Ao39 t584.length co39 : Value).ownBlock ∧ some k_ ≠ (.slice Ao40 t587.length co40 : Value).ownBlock ∧ some k_ ≠ (.slice Ao41 t590.length co41 : Value).ownBlock) (.slice Ao19 t555.length co19) t555) := ⟨Kd.R_mono (Kd.R_s HO557 BK604) (fun _ hk => ⟨hk.1.1.2, ⟨hk.1.2, hk.2⟩⟩)⟩
       have n1_ : Aside0 (Kd.R k29 29 (((w50.setCell ⟨gb604, 0, none⟩ (.int .i64 t600)).setCell ⟨gb604, 1, none⟩ (.int .i64 t601)).setCell ⟨gb604, 2, none⟩ (.int .i64 t602)) w.heap.size (fun k_ => some k_ ≠ (v564 : Value).ownBlock ∧ k_ ≠ gb558 ∧ k_ ≠ gb570 ∧ k_ ≠ gb599 ∧ k_ ≠ gb604) v560 t559) := ⟨Kd.R_pp (Kd.R_mono (Kd.R_far (p := ⟨gb604, 2, none⟩) (Kd.R_far (p := ⟨gb604, 1, none⟩) (Kd.R_far (p := ⟨gb604, 0, none⟩) (Kd.R_mono HO561.out (fun k_ hk => (⟨hk, hk.2⟩ : _ ∧ k_ ≠ gb604))) (fun _ hk => hk.2) (.int .i64 t600)) (fun _ hk => hk.2) (.int .i64 t601)) (fun _ hk => hk.2) (.int .i64 t602)) (fun _ hk => ⟨hk.1.1.1.1.2, ⟨hk.1.1.1.1.1.2, ⟨hk.1.1.1.2, ⟨hk.1.1.2, hk.1.2⟩⟩⟩⟩))⟩
       have n2_ : Aside0 (Kd.R k29 29 (((w50.setCell ⟨gb604, 0, none⟩ (.int .i64 t600)).setCell ⟨gb604, 1, none⟩ (.int .i64 t601)).setCell ⟨gb604, 2, none⟩ (.int .i64 t602)) w.heap.size (fun k_ => some k_ ≠ (v560 : Value).ownBlock ∧ k_ ≠ gb558 ∧ k_ ≠ gb570 ∧ k_ ≠ gb599 ∧ k_ ≠ gb604) v564 t563) := ⟨Kd.R_pp (Kd.R_mono (Kd.R_far (p := ⟨gb604, 2, none⟩) (Kd.R_far (p := ⟨gb604, 1, none⟩) (Kd.R_far (p := ⟨gb604, 0, none⟩) (Kd.R_mono HO565.out (fun k_ hk => (⟨hk, hk.2⟩ : _ ∧ k_ ≠ gb604))) (fun _ hk => hk.2) (.int .i64 t600)) (fun _ hk => hk.2) (.int .i64 t601)) (fun _ hk => hk.2) (.int .i64 t602)) (fun _ hk => ⟨hk.1.1.1.1.1.2, ⟨hk.1.1.1.1.2, ⟨hk.1.1.1.2, ⟨hk.1.1.2, hk.1.2⟩⟩⟩⟩))⟩
       have n3_ : Aside0 (Kd.R (Kd.int .i64) 3 (((w50.setCell ⟨gb604, 0, none⟩ (.int .i64 t600)).setCell ⟨gb604, 1, none⟩ (.int .i64 t601)).setCell ⟨gb604, 2, none⟩ (.int .i64 t602)) w.heap.size (fun k_ => some k_ ≠ (.slice Ao19 t555.length co19 : Value).ownBlock ∧ some k_ ≠ (.slice Ao40 t587.length co40 : Value).ownBlock ∧ some k_ ≠ (.slice Ao41 t590.length co41 : Value).ownBlock) (.slice Ao39 t584.length co39) t584) := ⟨Kd.R_mono (Kd.R_s HO586 BK604) (fun _ hk => ⟨hk.2, ⟨hk.1.1, hk.1.2⟩⟩)⟩
       have n4_ : Aside0 (Kd.R (Kd.int .i64) 3 (((w50.setCell ⟨gb604, 0, none⟩ (.int .i64 t600)).setCell ⟨gb604, 1, none⟩ (.int .i64 t601)).setCell ⟨gb604, 2, none⟩ (.int .i64 t602)) w.heap.size (fun k_ => some k_ ≠ (.slice Ao19 t555.length co19 : Value).ownBlock ∧ some k_ ≠ (.slice Ao39 t584.length co39 : Value).ownBlock ∧ some k_ ≠ (.slice Ao41 t590.length co41 : Value).ownBlock) (.slice Ao40 t587.length co40) t587) := ⟨Kd.R_mono (Kd.R_s HO589 BK604) (fun _ hk => ⟨hk.2, ⟨hk.1.1, hk.1.2⟩⟩)⟩
       have n5_ : Aside0 (Kd.R (Kd.int .i64) 3 (((w50.setCell ⟨gb604, 0, none⟩ (.int .i64 t600)).setCell ⟨gb604, 1, none⟩ (.int .i64 t601)).setCell ⟨gb604, 2, none⟩ (.int .i64 t602)) w.heap.size (fun k_ => some k_ ≠ (.slice Ao19 t555.length co19 : Value).ownBlock ∧ some k_ ≠ (.slice Ao39 t584.length co39 : Value).ownBlock ∧ some k_ ≠ (.slice Ao40 t587.length co40 : Value).ownBlock) (.slice Ao41 t590.length co41) t590) := ⟨Kd.R_mono (Kd.R_s HO592 BK604) (fun _ hk => ⟨hk.2, ⟨hk.1.1, hk.1.2⟩⟩)⟩
       have n6_ : Aside0 ((((w50.setCell ⟨gb604, 0, none⟩ (.int .i64 t600)).setCell ⟨gb604, 1, none⟩ (.int .i64 t601)).setCell ⟨gb604, 2, none⟩ (.int .i64 t602)).heap[gb558]? = some (.cells #[.int .i64 t552, .int .i64 t553, .int .i64 t554] 29 (0, 0))) := ⟨kf_ BK558 NB558_604⟩
       have n7_ : Aside0 ((((w50.setCell ⟨gb604, 0, none⟩ (.int .i64 t600)).setCell ⟨gb604, 1, none⟩ (.int .i64 t601)).setCell ⟨gb604, 2, none⟩ (.int .i64 t602)).heap[gb570]? = some (.cells #[.int .i64 t567, .int .i64 t568, .int .i64 t569] 29 (0, 0))) := ⟨kf_ BK570 NB570_604⟩
       have n8_ : Aside0 ((((w50.setCell ⟨gb604, 0, none⟩ (.int .i64 t600)).setCell ⟨gb604, 1, none⟩ (.int .i64 t601)).setCell ⟨gb604, 2, none⟩ (.int .i64 t602)).heap[gb594]? = some (.cells #[.int .i64 t581, .int .i64 t582, .int .i64 t583, .slice Ao39 t584.length co39, .slice Ao40 t587.length co40, .slice Ao41 t590.length co41] 34 (0, 0))) := ⟨kf_ BK594 NB594_604⟩
       have n9_ : Aside0 ((((w50.setCell ⟨gb604, 0, none⟩ (.int .i64 t600)).setCell ⟨gb604, 1, none⟩ (.int .i64 t601)).setCell ⟨gb604, 2, none⟩ (.int .i64 t602)).heap[gb599]? = some (.cells #[.int .i64 t595, .int .i64 t596, .int .i64 t597] 29 (0, 0))) := ⟨kf_ BK599 NB599_604⟩
       have n10_ : Aside0 ((((w50.setCell ⟨gb604, 0, none⟩ (.int .i64 t600)).setCell ⟨gb604, 1, none⟩ (.int .i64 t601)).setCell ⟨gb604, 2, none⟩ (.int .i64 t602)).heap[gb604]? = some (.cells #[.int .i64 t600, .int .i64 t601, .int .i64 t602] 29 (0, 0))) := ⟨kpq_ (kputs BK604 [(0, _), (1, _), (2, _)])⟩
       have n11_ : Aside0 (Below w.heap.size w (((w50.setCell ⟨gb604, 0, none⟩ (.int .i64 t600)).setCell ⟨gb604, 1, none⟩ (.int .i64 t601)).setCell ⟨gb604, 2, none⟩ (.int .i64 t602))) := ⟨hb_ HB⟩
       (try clear HO557)
       (try clear HO561)
       (try clear HO565)
       (try clear HO586)
       (try clear HO589)
       (try clear HO592)
       (try clear BK558)
       (try clear BK570)
       (try clear BK594)
       (try clear BK599)
       (try clear BK604)
       (try clear HB)
       generalize (((w50.setCell ⟨gb604, 0, none⟩ (.int .i64 t600)).setCell ⟨gb604, 1, none⟩ (.int .i64 t601)).setCell ⟨gb604, 2, none⟩ (.int .i64 t602)) = w100 at n0_ n1_ n2_ n3_ n4_ n5_ n6_ n7_ n8_ n9_ n10_ n11_ ⊢
       have HO557 := n0_
       have HO561 := n1_
       have HO565 := n2_
       have HO586 := n3_
       have HO589 := n4_
       have HO592 := n5_
       have BK558 := n6_
       have BK570 := n7_
       have BK594 := n8_
       have BK599 := n9_
       have BK604 := n10_
       have HB := n11_
       clear n0_ n1_ n2_ n3_ n4_ n5_ n6_ n7_ n8_ n9_ n10_ n11_
       have n0_ := Aside0.mk (Kd.R_drew HO557.out)
       have n1_ := Aside0.mk (Kd.R_drew HO561.out)
       have n2_ := Aside0.mk (Kd.R_drew HO565.out)
       have n3_ := Aside0.mk (Kd.R_drew HO586.out)
       have n4_ := Aside0.mk (Kd.R_drew HO589.out)
       have n5_ := Aside0.mk (Kd.R_drew HO592.out)
       have n6_ := Aside0.mk (blk_drew BK558.out)
       have n7_ := Aside0.mk (blk_drew BK570.out)
       have n8_ := Aside0.mk (blk_drew BK594.out)
       have n9_ := Aside0.mk (blk_drew BK599.out)
       have n10_ := Aside0.mk (blk_drew BK604.out)
       have n11_ := Aside0.mk (below_drew1 HB.out)
       clear HO557
       clear HO561
       clear HO565
       clear HO586
       clear HO589
       clear HO592
       clear BK558
       clear BK570
       clear BK594
       clear BK599
       clear BK604
       clear HB
       have HO557 := n0_
       have HO561 := n1_
       have HO565 := n2_
       have HO586 := n3_
       have HO589 := n4_
       have HO592 := n5_
       have BK558 := n6_
       have BK570 := n7_
       have BK594 := n8_
       have BK599 := n9_
       have BK604 := n10_
       have HB := n11_
       clear n0_ n1_ n2_ n3_ n4_ n5_ n6_ n7_ n8_ n9_ n10_ n11_
       obtain ⟨Ao102, co102, eo102⟩ := Kd.R_slice HO561.out
       (first | subst eo102 | (injection eo102 with f1_ f2_ f3_; have f4_ := f1_.symm; have f5_ := f3_.symm; clear f1_ f2_ f3_; subst f4_; subst f5_))
       obtain ⟨Ao103, co103, eo103⟩ := Kd.R_slice HO565.out
       (first | subst eo103 | (injection eo103 with f1_ f2_ f3_; have f4_ := f1_.symm; have f5_ := f3_.symm; clear f1_ f2_ f3_; subst f4_; subst f5_))
       refine start_ (n := 51) (S := fun w' => True) (ds := []) (bb 51 0) (by kernel_rfl) rfl rfl trivial (fun hHeld => ?_); refine with_tabW laws_FnPieces.tab14 laws_FnPieces.bits14 (fun HT_ HW_ => ?_)
       generalize w100.drew = w101 at HO557 HO561 HO565 HO586 HO589 HO592 BK558 BK570 BK594 BK599 BK604 HB hHeld ⊢
       refine pl_ HT_ 0 (some 102) (bb 51 1) (h := ?_)
       refine pl_ HT_ 1 (some 103) (bb 51 3) (h := ?_)
       refine pl_ HT_ 2 (some 104) (bb 51 7) (h := ?_)
       refine pl_ HT_ 3 (some 105) (bb 51 15) (h := ?_)
       refine pl_ HT_ 4 (some 106) (bb 51 31) (h := ?_)
       refine pl_ HT_ 5 (some 107) (bb 51 63) (h := ?_)
       refine one_ (i := 6) (N := some 108) (bb 51 127) rfl rfl (one_of HT_.out (by kernel_rfl)) (by decide) (fun K hK => ?_)
       refine goes_ Try.func46 (by kernel_rfl) rfl #[.slice Ao102 t559.length co102, .slice Ao103 t563.length co103] (by rfl) rfl rfl (by (try simp only [List.map_toArray, List.map_cons, List.map_nil]); first | done | rfl | (simp only [List.length_drop, List.length_take]; rfl)) ?_
       with_reducible refine (laws_qPieces.calls k _ _ t559 _ _ t563 true _ ?side1 ?side2 ?side3 ?side4 A59.out).mono ?_
       (case side1 => exact Kd.C_o HO561)
       (case side2 => exact (Kd.R_reads' HO561.out).2.1)
       (case side3 => exact Kd.C_o HO565)
       (case side4 => exact (Kd.R_reads' HO565.out).2.1)
       rintro e w' ⟨rfl, ⟨nd, rfl⟩⟩
       refine ⟨_, rfl, ?_⟩
       refine hK.out _ _ trivial (fun hHeld => ?_)
       clear hK K
       refine norm_ (a' := ?_) ?_ ?_
       rotate_left
       ·show Act.put _ (some 108) _ = _
        simp only [Act.put, List.setIfInBounds_toArray, List.set_cons_zero, List.set_cons_succ, i64_w, i32_w]
        rfl
       refine pl_ HT_ 7 (some 109) (bb 51 255) (h := ?_)
       refine pl_ HT_ 8 (some 110) (bb 51 511) (h := ?_)
       refine pl_ HT_ 9 (some 111) (bb 51 1023) (h := ?_)
       refine pl_ HT_ 10 (some 112) (bb 51 2047) (h := ?_)
       refine pl_ HT_ 11 (some 113) (bb 51 4095) (h := ?_)
       refine pl_ HT_ 12 (some 114) (bb 51 8191) (h := ?_)
       refine pl_ HT_ 13 (some 115) (bb 51 16383) (h := ?_)
       refine pl_ HT_ 14 (some 116) (bb 51 32767) (h := ?_)
       refine pl_ HT_ 15 (some 117) (bb 51 65535) (h := ?_)
       refine pl_ HT_ 16 (some 118) (bb 51 131071) (h := ?_)
       refine pl_ HT_ 17 (some 119) (bb 51 262143) (h := ?_)
       refine pl_ HT_ 18 (some 120) (bb 51 524287) (h := ?_)
       refine pl_ HT_ 19 (some 121) (bb 51 1048575) (h := ?_)
       refine pr_ HT_ 20 (some 122) (bb 51 2097151) (h := ?_)
       refine pr_ HT_ 21 (some 123) (bb 51 4194303) (h := ?_)
       refine pr_ HT_ 22 (some 124) (bb 51 8388607) (h := ?_)
       refine pl_ HT_ 23 (some 125) (bb 51 16777215) (h := ?_)
       refine pl_ HT_ 24 (some 126) (bb 51 33554431) (h := ?_)
       refine pr_ HT_ 25 (some 127) (bb 51 67108863) (h := ?_)
       refine pr_ HT_ 26 (some 128) (bb 51 134217727) (h := ?_)
       refine pr_ HT_ 27 (some 129) (bb 51 268435455) (h := ?_)
       refine pl_ HT_ 28 (some 130) (bb 51 536870911) (h := ?_)
       refine pl_ HT_ 29 (some 131) (bb 51 1073741823) (h := ?_)
       refine pr_ HT_ 30 (some 132) (bb 51 2147483647) (h := ?_)
       refine pr_ HT_ 31 (some 133) (bb 51 4294967295) (h := ?_)
       refine pr_ HT_ 32 (some 134) (bb 51 8589934591) (h := ?_)
       refine pl_ HT_ 33 (some 135) (bb 51 17179869183) (h := ?_)
       refine pl_ HT_ 34 (some 136) (bb 51 34359738367) (h := ?_)
       refine pr_ HT_ 35 (some 137) (bb 51 68719476735) (h := ?_)
       refine pr_ HT_ 36 (some 138) (bb 51 137438953471) (h := ?_)
       refine pr_ HT_ 37 (some 139) (bb 51 274877906943) (h := ?_)
       refine pl_ HT_ 38 (some 140) (bb 51 549755813887) (h := ?_)
       refine pl_ HT_ 39 (some 141) (bb 51 1099511627775) (h := ?_)
       refine pr_ HT_ 40 (some 142) (bb 51 2199023255551) (h := ?_)
       refine pr_ HT_ 41 (some 143) (bb 51 4398046511103) (h := ?_)
       refine pr_ HT_ 42 (some 144) (bb 51 8796093022207) (h := ?_)
       refine pl_ HT_ 43 (some 145) (bb 51 17592186044415) (h := ?_)
       refine pl_ HT_ 44 (some 146) (bb 51 35184372088831) (h := ?_)
       refine pr_ HT_ 45 (some 147) (bb 51 70368744177663) (h := ?_)
       refine pr_ HT_ 46 (some 148) (bb 51 140737488355327) (h := ?_)
       refine pr_ HT_ 47 (some 149) (bb 51 281474976710655) (h := ?_)
       refine pr_ HT_ 48 (some 150) (bb 51 562949953421311) (h := ?_)
       refine pr_ HT_ 49 (some 151) (bb 51 1125899906842623) (h := ?_)
       refine pl_ HT_ 50 (some 152) (bb 51 2251799813685247) (h := ?_)
       refine done_ (done_of HT_.out (by kernel_rfl)) ?_
       try go_wp2
       go_meet
       case rel => exact ⟨_, (true), (by first | rfl | (simp; done) | (simp [*]; done)), H', ⟨by first | omega | exact Nat.le_refl _⟩, ⟨Kd.R_p HO557⟩, ⟨Kd.R_pp (Kd.R_mono HO561.out (fun _ hk => ⟨hk.1, ⟨hk.2.1, ⟨hk.2.2.2.1, hk.2.2.2.2⟩⟩⟩))⟩, ⟨Kd.R_pp (Kd.R_mono HO565.out (fun _ hk => ⟨hk.1, ⟨hk.2.1, ⟨hk.2.2.2.1, hk.2.2.2.2⟩⟩⟩))⟩, ⟨Kd.R_p HO586⟩, ⟨Kd.R_p HO589⟩, ⟨Kd.R_p HO592⟩, ⟨kp_ BK558⟩, ⟨kp_ BK594⟩, ⟨kp_ BK599⟩, ⟨kp_ BK604⟩, ⟨hb_ HB⟩⟩
       )
       exact p9_
    ·refine ?z10_
     let rec p10_ : type_of% ?z10_ := by(
     replace c60 := Bool.eq_false_iff.mpr c60
     subst c60
     rw [if_neg (show ¬ (false = true) by decide)] at H
     have H' := Aside0.mk H
     clear H
     try go_wp2
     have n0_ : Aside0 (Kd.R (Kd.int .i64) 3 (((w50.setCell ⟨gb604, 0, none⟩ (.int .i64 t600)).setCell ⟨gb604, 1, none⟩ (.int .i64 t601)).setCell ⟨gb604, 2, none⟩ (.int .i64 t602)) w.heap.size (fun k_ => some k_ ≠ (.slice Ao39 t584.length co39 : Value).ownBlock ∧ some k_ ≠ (.slice Ao40 t587.length co40 : Value).ownBlock ∧ some k_ ≠ (.slice Ao41 t590.length co41 : Value).ownBlock) (.slice Ao19 t555.length co19) t555) := ⟨Kd.R_mono (Kd.R_s HO557 BK604) (fun _ hk => ⟨hk.1.1.2, ⟨hk.1.2, hk.2⟩⟩)⟩
     have n1_ : Aside0 (Kd.R k29 29 (((w50.setCell ⟨gb604, 0, none⟩ (.int .i64 t600)).setCell ⟨gb604, 1, none⟩ (.int .i64 t601)).setCell ⟨gb604, 2, none⟩ (.int .i64 t602)) w.heap.size (fun k_ => some k_ ≠ (v564 : Value).ownBlock ∧ k_ ≠ gb558 ∧ k_ ≠ gb570 ∧ k_ ≠ gb599 ∧ k_ ≠ gb604) v560 t559) := ⟨Kd.R_pp (Kd.R_mono (Kd.R_far (p := ⟨gb604, 2, none⟩) (Kd.R_far (p := ⟨gb604, 1, none⟩) (Kd.R_far (p := ⟨gb604, 0, none⟩) (Kd.R_mono HO561.out (fun k_ hk => (⟨hk, hk.2⟩ : _ ∧ k_ ≠ gb604))) (fun _ hk => hk.2) (.int .i64 t600)) (fun _ hk => hk.2) (.int .i64 t601)) (fun _ hk => hk.2) (.int .i64 t602)) (fun _ hk => ⟨hk.1.1.1.1.2, ⟨hk.1.1.1.1.1.2, ⟨hk.1.1.1.2, ⟨hk.1.1.2, hk.1.2⟩⟩⟩⟩))⟩
     have n2_ : Aside0 (Kd.R k29 29 (((w50.setCell ⟨gb604, 0, none⟩ (.int .i64 t600)).setCell ⟨gb604, 1, none⟩ (.int .i64 t601)).setCell ⟨gb604, 2, none⟩ (.int .i64 t602)) w.heap.size (fun k_ => some k_ ≠ (v560 : Value).ownBlock ∧ k_ ≠ gb558 ∧ k_ ≠ gb570 ∧ k_ ≠ gb599 ∧ k_ ≠ gb604) v564 t563) := ⟨Kd.R_pp (Kd.R_mono (Kd.R_far (p := ⟨gb604, 2, none⟩) (Kd.R_far (p := ⟨gb604, 1, none⟩) (Kd.R_far (p := ⟨gb604, 0, none⟩) (Kd.R_mono HO565.out (fun k_ hk => (⟨hk, hk.2⟩ : _ ∧ k_ ≠ gb604))) (fun _ hk => hk.2) (.int .i64 t600)) (fun _ hk => hk.2) (.int .i64 t601)) (fun _ hk => hk.2) (.int .i64 t602)) (fun _ hk => ⟨hk.1.1.1.1.1.2, ⟨hk.1.1.1.1.2, ⟨hk.1.1.1.2, ⟨hk.1.1.2, hk.1.2⟩⟩⟩⟩))⟩
     have n3_ : Aside0 (Kd.R (Kd.int .i64) 3 (((w50.setCell ⟨gb604, 0, none⟩ (.int .i64 t600)).setCell ⟨gb604, 1, none⟩ (.int .i64 t601)).setCell ⟨gb604, 2, none⟩ (.int .i64 t602)) w.heap.size (fun k_ => some k_ ≠ (.slice Ao19 t555.length co19 : Value).ownBlock ∧ some k_ ≠ (.slice Ao40 t587.length co40 : Value).ownBlock ∧ some k_ ≠ (.slice Ao41 t590.length co41 : Value).ownBlock) (.slice Ao39 t584.length co39) t584) := ⟨Kd.R_mono (Kd.R_s HO586 BK604) (fun _ hk => ⟨hk.2, ⟨hk.1.1, hk.1.2⟩⟩)⟩
     have n4_ : Aside0 (Kd.R (Kd.int .i64) 3 (((w50.setCell ⟨gb604, 0, none⟩ (.int .i64 t600)).setCell ⟨gb604, 1, none⟩ (.int .i64 t601)).setCell ⟨gb604, 2, none⟩ (.int .i64 t602)) w.heap.size (fun k_ => some k_ ≠ (.slice Ao19 t555.length co19 : Value).ownBlock ∧ some k_ ≠ (.slice Ao39 t584.length co39 : Value).ownBlock ∧ some k_ ≠ (.slice Ao41 t590.length co41 : Value).ownBlock) (.slice Ao40 t587.length co40) t587) := ⟨Kd.R_mono (Kd.R_s HO589 BK604) (fun _ hk => ⟨hk.2, ⟨hk.1.1, hk.1.2⟩⟩)⟩
     have n5_ : Aside0 (Kd.R (Kd.int .i64) 3 (((w50.setCell ⟨gb604, 0, none⟩ (.int .i64 t600)).setCell ⟨gb604, 1, none⟩ (.int .i64 t601)).setCell ⟨gb604, 2, none⟩ (.int .i64 t602)) w.heap.size (fun k_ => some k_ ≠ (.slice Ao19 t555.length co19 : Value).ownBlock ∧ some k_ ≠ (.slice Ao39 t584.length co39 : Value).ownBlock ∧ some k_ ≠ (.slice Ao40 t587.length co40 : Value).ownBlock) (.slice Ao41 t590.length co41) t590) := ⟨Kd.R_mono (Kd.R_s HO592 BK604) (fun _ hk => ⟨hk.2, ⟨hk.1.1, hk.1.2⟩⟩)⟩
     have n6_ : Aside0 ((((w50.setCell ⟨gb604, 0, none⟩ (.int .i64 t600)).setCell ⟨gb604, 1, none⟩ (.int .i64 t601)).setCell ⟨gb604, 2, none⟩ (.int .i64 t602)).heap[gb558]? = some (.cells #[.int .i64 t552, .int .i64 t553, .int .i64 t554] 29 (0, 0))) := ⟨kf_ BK558 NB558_604⟩
     have n7_ : Aside0 ((((w50.setCell ⟨gb604, 0, none⟩ (.int .i64 t600)).setCell ⟨gb604, 1, none⟩ (.int .i64 t601)).setCell ⟨gb604, 2, none⟩ (.int .i64 t602)).heap[gb570]? = some (.cells #[.int .i64 t567, .int .i64 t568, .int .i64 t569] 29 (0, 0))) := ⟨kf_ BK570 NB570_604⟩
     have n8_ : Aside0 ((((w50.setCell ⟨gb604, 0, none⟩ (.int .i64 t600)).setCell ⟨gb604, 1, none⟩ (.int .i64 t601)).setCell ⟨gb604, 2, none⟩ (.int .i64 t602)).heap[gb594]? = some (.cells #[.int .i64 t581, .int .i64 t582, .int .i64 t583, .slice Ao39 t584.length co39, .slice Ao40 t587.length co40, .slice Ao41 t590.length co41] 34 (0, 0))) := ⟨kf_ BK594 NB594_604⟩
     have n9_ : Aside0 ((((w50.setCell ⟨gb604, 0, none⟩ (.int .i64 t600)).setCell ⟨gb604, 1, none⟩ (.int .i64 t601)).setCell ⟨gb604, 2, none⟩ (.int .i64 t602)).heap[gb599]? = some (.cells #[.int .i64 t595, .int .i64 t596, .int .i64 t597] 29 (0, 0))) := ⟨kf_ BK599 NB599_604⟩
     have n10_ : Aside0 ((((w50.setCell ⟨gb604, 0, none⟩ (.int .i64 t600)).setCell ⟨gb604, 1, none⟩ (.int .i64 t601)).setCell ⟨gb604, 2, none⟩ (.int .i64 t602)).heap[gb604]? = some (.cells #[.int .i64 t600, .int .i64 t601, .int .i64 t602] 29 (0, 0))) := ⟨kpq_ (kputs BK604 [(0, _), (1, _), (2, _)])⟩
     have n11_ : Aside0 (Below w.heap.size w (((w50.setCell ⟨gb604, 0, none⟩ (.int .i64 t600)).setCell ⟨gb604, 1, none⟩ (.int .i64 t601)).setCell ⟨gb604, 2, none⟩ (.int .i64 t602))) := ⟨hb_ HB⟩
     (try clear HO557)
     (try clear HO561)
     (try clear HO565)
     (try clear HO586)
     (try clear HO589)
     (try clear HO592)
     (try clear BK558)
     (try clear BK570)
     (try clear BK594)
     (try clear BK599)
     (try clear BK604)
     (try clear HB)
     generalize (((w50.setCell ⟨gb604, 0, none⟩ (.int .i64 t600)).setCell ⟨gb604, 1, none⟩ (.int .i64 t601)).setCell ⟨gb604, 2, none⟩ (.int .i64 t602)) = w104 at n0_ n1_ n2_ n3_ n4_ n5_ n6_ n7_ n8_ n9_ n10_ n11_ ⊢
     have HO557 := n0_
     have HO561 := n1_
     have HO565 := n2_
     have HO586 := n3_
     have HO589 := n4_
     have HO592 := n5_
     have BK558 := n6_
     have BK570 := n7_
     have BK594 := n8_
     have BK599 := n9_
     have BK604 := n10_
     have HB := n11_
     clear n0_ n1_ n2_ n3_ n4_ n5_ n6_ n7_ n8_ n9_ n10_ n11_
     have n0_ := Aside0.mk (Kd.R_drew HO557.out)
     have n1_ := Aside0.mk (Kd.R_drew HO561.out)
     have n2_ := Aside0.mk (Kd.R_drew HO565.out)
     have n3_ := Aside0.mk (Kd.R_drew HO586.out)
     have n4_ := Aside0.mk (Kd.R_drew HO589.out)
     have n5_ := Aside0.mk (Kd.R_drew HO592.out)
     have n6_ := Aside0.mk (blk_drew BK558.out)
     have n7_ := Aside0.mk (blk_drew BK570.out)
     have n8_ := Aside0.mk (blk_drew BK594.out)
     have n9_ := Aside0.mk (blk_drew BK599.out)
     have n10_ := Aside0.mk (blk_drew BK604.out)
     have n11_ := Aside0.mk (below_drew1 HB.out)
     clear HO557
     clear HO561
     clear HO565
     clear HO586
     clear HO589
     clear HO592
     clear BK558
     clear BK570
     clear BK594
     clear BK599
     clear BK604
     clear HB
     have HO557 := n0_
     have HO561 := n1_
     have HO565 := n2_
     have HO586 := n3_
     have HO589 := n4_
     have HO592 := n5_
     have BK558 := n6_
     have BK570 := n7_
     have BK594 := n8_
     have BK599 := n9_
     have BK604 := n10_
     have HB := n11_
     clear n0_ n1_ n2_ n3_ n4_ n5_ n6_ n7_ n8_ n9_ n10_ n11_
     obtain ⟨Ao106, co106, eo106⟩ := Kd.R_slice HO561.out
     (first | subst eo106 | (injection eo106 with f1_ f2_ f3_; have f4_ := f1_.symm; have f5_ := f3_.symm; clear f1_ f2_ f3_; subst f4_; subst f5_))
     obtain ⟨Ao107, co107, eo107⟩ := Kd.R_slice HO565.out
     (first | subst eo107 | (injection eo107 with f1_ f2_ f3_; have f4_ := f1_.symm; have f5_ := f3_.symm; clear f1_ f2_ f3_; subst f4_; subst f5_))
     refine start_ (n := 51) (S := fun w' => True) (ds := []) (bb 51 0) (by kernel_rfl) rfl rfl trivial (fun hHeld => ?_); refine with_tabW laws_FnPieces.tab14 laws_FnPieces.bits14 (fun HT_ HW_ => ?_)
     generalize w104.drew = w105 at HO557 HO561 HO565 HO586 HO589 HO592 BK558 BK570 BK594 BK599 BK604 HB hHeld ⊢
     refine pl_ HT_ 0 (some 102) (bb 51 1) (h := ?_)
     refine pl_ HT_ 1 (some 103) (bb 51 3) (h := ?_)
     refine pl_ HT_ 2 (some 104) (bb 51 7) (h := ?_)
     refine pl_ HT_ 3 (some 105) (bb 51 15) (h := ?_)
     refine pl_ HT_ 4 (some 106) (bb 51 31) (h := ?_)
     refine pl_ HT_ 5 (some 107) (bb 51 63) (h := ?_)
     refine one_ (i := 6) (N := some 108) (bb 51 127) rfl rfl (one_of HT_.out (by kernel_rfl)) (by decide) (fun K hK => ?_)
     refine goes_ Try.func46 (by kernel_rfl) rfl #[.slice Ao106 t559.length co106, .slice Ao107 t563.length co107] (by rfl) rfl rfl (by (try simp only [List.map_toArray, List.map_cons, List.map_nil]); first | done | rfl | (simp only [List.length_drop, List.length_take]; rfl)) ?_
     with_reducible refine (laws_qPieces.calls k _ _ t559 _ _ t563 false _ ?side1 ?side2 ?side3 ?side4 A59.out).mono ?_
     (case side1 => exact Kd.C_o HO561)
     (case side2 => exact (Kd.R_reads' HO561.out).2.1)
     (case side3 => exact Kd.C_o HO565)
     (case side4 => exact (Kd.R_reads' HO565.out).2.1)
     rintro e w' ⟨rfl, ⟨nd, rfl⟩⟩
     refine ⟨_, rfl, ?_⟩
     refine hK.out _ _ trivial (fun hHeld => ?_)
     clear hK K
     refine norm_ (a' := ?_) ?_ ?_
     rotate_left
     ·show Act.put _ (some 108) _ = _
      simp only [Act.put, List.setIfInBounds_toArray, List.set_cons_zero, List.set_cons_succ, i64_w, i32_w]
      rfl
     refine pl_ HT_ 7 (some 109) (bb 51 255) (h := ?_)
     refine pl_ HT_ 8 (some 110) (bb 51 511) (h := ?_)
     refine pl_ HT_ 9 (some 111) (bb 51 1023) (h := ?_)
     refine pr_ HT_ 10 (some 112) (bb 51 2047) (h := ?_)
     refine pr_ HT_ 11 (some 113) (bb 51 4095) (h := ?_)
     refine pr_ HT_ 12 (some 114) (bb 51 8191) (h := ?_)
     refine pl_ HT_ 13 (some 115) (bb 51 16383) (h := ?_)
     refine pl_ HT_ 14 (some 116) (bb 51 32767) (h := ?_)
     refine pr_ HT_ 15 (some 117) (bb 51 65535) (h := ?_)
     refine pr_ HT_ 16 (some 118) (bb 51 131071) (h := ?_)
     refine pr_ HT_ 17 (some 119) (bb 51 262143) (h := ?_)
     refine pl_ HT_ 18 (some 120) (bb 51 524287) (h := ?_)
     refine pl_ HT_ 19 (some 121) (bb 51 1048575) (h := ?_)
     refine pr_ HT_ 20 (some 122) (bb 51 2097151) (h := ?_)
     refine pr_ HT_ 21 (some 123) (bb 51 4194303) (h := ?_)
     refine pr_ HT_ 22 (some 124) (bb 51 8388607) (h := ?_)
     refine pl_ HT_ 23 (some 125) (bb 51 16777215) (h := ?_)
     refine pl_ HT_ 24 (some 126) (bb 51 33554431) (h := ?_)
     refine pr_ HT_ 25 (some 127) (bb 51 67108863) (h := ?_)
     refine pr_ HT_ 26 (some 128) (bb 51 134217727) (h := ?_)
     refine pr_ HT_ 27 (some 129) (bb 51 268435455) (h := ?_)
     refine pl_ HT_ 28 (some 130) (bb 51 536870911) (h := ?_)
     refine pl_ HT_ 29 (some 131) (bb 51 1073741823) (h := ?_)
     refine pr_ HT_ 30 (some 132) (bb 51 2147483647) (h := ?_)
     refine pr_ HT_ 31 (some 133) (bb 51 4294967295) (h := ?_)
     refine pr_ HT_ 32 (some 134) (bb 51 8589934591) (h := ?_)
     refine pl_ HT_ 33 (some 135) (bb 51 17179869183) (h := ?_)
     refine pl_ HT_ 34 (some 136) (bb 51 34359738367) (h := ?_)
     refine pr_ HT_ 35 (some 137) (bb 51 68719476735) (h := ?_)
     refine pr_ HT_ 36 (some 138) (bb 51 137438953471) (h := ?_)
     refine pr_ HT_ 37 (some 139) (bb 51 274877906943) (h := ?_)
     refine pl_ HT_ 38 (some 140) (bb 51 549755813887) (h := ?_)
     refine pl_ HT_ 39 (some 141) (bb 51 1099511627775) (h := ?_)
     refine pr_ HT_ 40 (some 142) (bb 51 2199023255551) (h := ?_)
     refine pr_ HT_ 41 (some 143) (bb 51 4398046511103) (h := ?_)
     refine pr_ HT_ 42 (some 144) (bb 51 8796093022207) (h := ?_)
     refine pl_ HT_ 43 (some 145) (bb 51 17592186044415) (h := ?_)
     refine pl_ HT_ 44 (some 146) (bb 51 35184372088831) (h := ?_)
     refine pr_ HT_ 45 (some 147) (bb 51 70368744177663) (h := ?_)
     refine pr_ HT_ 46 (some 148) (bb 51 140737488355327) (h := ?_)
     refine pr_ HT_ 47 (some 149) (bb 51 281474976710655) (h := ?_)
     refine pr_ HT_ 48 (some 150) (bb 51 562949953421311) (h := ?_)
     refine pr_ HT_ 49 (some 151) (bb 51 1125899906842623) (h := ?_)
     refine pl_ HT_ 50 (some 152) (bb 51 2251799813685247) (h := ?_)
     refine done_ (done_of HT_.out (by kernel_rfl)) ?_
     try go_wp2
     go_meet
     case rel => exact ⟨_, (true), (by first | rfl | (simp; done) | (simp [*]; done)), H', ⟨by first | omega | exact Nat.le_refl _⟩, ⟨Kd.R_p HO557⟩, ⟨Kd.R_pp (Kd.R_mono HO561.out (fun _ hk => ⟨hk.1, ⟨hk.2.1, ⟨hk.2.2.2.1, hk.2.2.2.2⟩⟩⟩))⟩, ⟨Kd.R_pp (Kd.R_mono HO565.out (fun _ hk => ⟨hk.1, ⟨hk.2.1, ⟨hk.2.2.2.1, hk.2.2.2.2⟩⟩⟩))⟩, ⟨Kd.R_p HO586⟩, ⟨Kd.R_p HO589⟩, ⟨Kd.R_p HO592⟩, ⟨kp_ BK558⟩, ⟨kp_ BK594⟩, ⟨kp_ BK599⟩, ⟨kp_ BK604⟩, ⟨hb_ HB⟩⟩
     )
     exact p10_
  case rest =>
   repeat (rename_i z1_; revert z1_)
   (try revert wc); (try revert w105); (try revert co107); (try revert Ao107); (try revert co106); (try revert Ao106); (try revert w104); (try revert w101); (try revert co103); (try revert Ao103); (try revert co102); (try revert Ao102); (try revert w100); (try revert w97); (try revert co99); (try revert Ao99); (try revert co98); (try revert Ao98); (try revert w96); (try revert w93); (try revert co95); (try revert Ao95); (try revert co94); (try revert Ao94); (try revert w92); (try revert w91); (try revert w90); (try revert w87); (try revert co89); (try revert Ao89); (try revert co88); (try revert Ao88)
   (try revert w86); (try revert A850); (try revert t607); (try revert A840); (try revert t606); (try revert w81); (try revert co83); (try revert Ao83); (try revert co82); (try revert Ao82); (try revert w80); (try revert w76); (try revert co78); (try revert Ao78); (try revert co77); (try revert Ao77); (try revert w75); (try revert w69); (try revert co71); (try revert Ao71); (try revert co70); (try revert Ao70); (try revert w68); (try revert w63); (try revert co65); (try revert Ao65); (try revert co64); (try revert Ao64); (try revert w62); (try revert A590); (try revert t605); (try revert w58); (try revert w57)
   (try revert w50); (try revert gb604); (try revert w49); (try revert w43); (try revert gb599); (try revert w42); (try revert co41); (try revert Ao41); (try revert co40); (try revert Ao40); (try revert co39); (try revert Ao39); (try revert w35); (try revert gb594); (try revert v591); (try revert v588); (try revert v585); (try revert w34); (try revert w33); (try revert w31); (try revert w29); (try revert w27); (try revert w24); (try revert gb570); (try revert w23); (try revert v564); (try revert w22); (try revert v560); (try revert w20); (try revert co19); (try revert Ao19); (try revert w17); (try revert gb558)
   (try revert v556); (try revert w16); (try revert e); (try revert A140); (try revert t603); (try revert t602); (try revert t601); (try revert t600); (try revert A130); (try revert t598); (try revert t597); (try revert t596); (try revert t595); (try revert A120); (try revert t593); (try revert t590); (try revert t587); (try revert t584); (try revert t583); (try revert t582); (try revert t581); (try revert A110); (try revert t580); (try revert t579); (try revert t578); (try revert A100); (try revert t577); (try revert t576); (try revert t575); (try revert A90); (try revert t574); (try revert t573)
   (try revert A80); (try revert t572); (try revert t571); (try revert A70); (try revert t569); (try revert t568); (try revert t567); (try revert A60); (try revert t566); (try revert t563); (try revert A50); (try revert t562); (try revert t559); (try revert A40); (try revert t555); (try revert t554); (try revert t553); (try revert t552); (try revert w); (try revert r); (try revert l1); (try revert c1); (try revert A1); (try revert l0); (try revert c0); (try revert A0)
   (try revert u38); (try revert u39); (try revert u40); (try revert u41); (try revert u42); (try revert u43); (try revert u44); (try revert u45); (try revert u46); (try revert u47); (try revert u48); (try revert u49); (try revert u50); (try revert u51); (try revert u52); (try revert u53); (try revert u54); (try revert u55); (try revert u56); (try revert u57); (try revert u58); (try revert u59); (try revert u60); (try revert u61); (try revert u62); (try revert u63); (try revert u64); (try revert u65); (try revert u66); (try revert u67); (try revert u68); (try revert u69); (try revert u70); (try revert u71); (try revert u72); (try revert u73); (try revert u74); (try revert u75); (try revert u76); (try revert u77); (try revert u78); (try revert u79); (try revert u80); (try revert u81); (try revert u82); (try revert u83); (try revert u84); (try revert u85); (try revert u86); (try revert u87); (try revert u88); (try revert u89); (try revert u90); (try revert u91); (try revert u92); (try revert u93); (try revert u94); (try revert u95); (try revert u96); (try revert u97); (try revert u98); (try revert u99); (try revert u100); (try revert u101); (try revert u102); (try revert u103); (try revert u104); (try revert u105); (try revert u106); (try revert u107); (try revert u108); (try revert u109); (try revert u110); (try revert u111); (try revert u112); (try revert u113); (try revert u114); (try revert u115); (try revert u116); (try revert u117); (try revert u118); (try revert u119); (try revert u120); (try revert u121); (try revert u122); (try revert u123); (try revert u124); (try revert u125); (try revert u126); (try revert u127); (try revert u128); (try revert u129); (try revert u130); (try revert u131); (try revert u132); (try revert u133); (try revert u134); (try revert u135); (try revert u136); (try revert u137); (try revert u138); (try revert u139); (try revert u140); (try revert u141); (try revert u142); (try revert u143); (try revert u144); (try revert u145); (try revert u146); (try revert u147); (try revert u148); (try revert u149); (try revert u150); (try revert u151); (try revert u152); (try revert u153); (try revert u154); (try revert u155); (try revert u156); (try revert u157); (try revert u158); (try revert u159); (try revert u160); (try revert u161); (try revert u162); (try revert u163); (try revert u164); (try revert u165); (try revert u166); (try revert u167); (try revert u168); (try revert u169); (try revert u170); (try revert u171); (try revert u172); (try revert u173); (try revert u174); (try revert u175); (try revert u176); (try revert u177); (try revert u178); (try revert u179); (try revert u180); (try revert u181); (try revert u182); (try revert u183); (try revert u184); (try revert u185); (try revert u186); (try revert u187); (try revert u188); (try revert u189); (try revert u190); (try revert u191); (try revert u192); (try revert u193); (try revert u194); (try revert u195); (try revert u196); (try revert u197); (try revert u198); (try revert u199); (try revert u200); (try revert u201); (try revert u202); (try revert u203); (try revert u204); (try revert u205); (try revert u206); (try revert u207); (try revert u208); (try revert u209); (try revert u210); (try revert u211); (try revert u212); (try revert u213); (try revert u217); (try revert u218); (try revert u219); (try revert u220); (try revert u221); (try revert u222); (try revert u223); (try revert u224); (try revert u225); (try revert u226); (try revert u227); (try revert u228); (try revert u229); (try revert u230); (try revert u231); (try revert u232); (try revert u233); (try revert u234); (try revert u235); (try revert u236); (try revert u237); (try revert u238); (try revert u239); (try revert u240); (try revert u241); (try revert u242); (try revert u243); (try revert u244); (try revert u245); (try revert u246); (try revert u247); (try revert u248); (try revert u249); (try revert u250); (try revert u251); (try revert u252); (try revert u253); (try revert u254); (try revert u255); (try revert u256); (try revert u257); (try revert u258); (try revert u259); (try revert u260); (try revert u261); (try revert u262); (try revert u263); (try revert u264); (try revert u265); (try revert u266)
   revert k
   exact hR_
  ⟩
end Go.Proofs.Ytceajigggcihnaa.PFnPieces
