-- Laid for this claim by wip/tools/print2.sh, a changed copy of the kit's print (wip/tools/patch_print.py): not by print.sh. Changed by wip/fix/laid.py. Changed by wip/fix/strsize.py. Changed by wip/fix/strext.py.
import Derived.Test.YtikdododhkljeaaDoorPFnExactRuleTextx0
import Derived.Test.YtikdododhkljeaaDoorPFnExactRuleTextx6
import Derived.Test.YtikdododhkljeaaDoorWSteps
import Derived.Test.YtikdododhkljeaaDoorWSqueeze
namespace Go.Proofs.YtikdododhkljeaaDoor.PFnExactRuleText
open Go.RowKit Go.Proofs.YtikdododhkljeaaDoorW.PrintWords Go.Proofs.YtikdododhkljeaaDoorW.PrintLast Go.Proofs.YtikdododhkljeaaDoorW.PrintMore
attribute [local go_sem] max2_int min2_int max_two min_two max_three min_three max_four min_four   -- for this text's walks alone
set_option linter.unusedVariables false
set_option linter.unusedSimpArgs false

theorem sz_1 (a : UInt8) : (⟨#[a]⟩ : ByteArray).size = 1 := rfl
theorem sz_2 (a b : UInt8) : (⟨#[a, b]⟩ : ByteArray).size = 2 := rfl
theorem sz_3 (a b c : UInt8) : (⟨#[a, b, c]⟩ : ByteArray).size = 3 := rfl
theorem sz_6 (a b c d e f : UInt8) : (⟨#[a, b, c, d, e, f]⟩ : ByteArray).size = 6 := rfl
/-! ### impl_ruleText: function 13 -/
mutual
def impl_ruleText.j0 : Nat → List (S33) → Int → List Int → Int → Bool → Int → Int → Option (ByteArray)
 | 0, _, _, _, _, _, _, _ => none
 | k + 1, x0, x2, x8, x19, x68, x240000, x240001 => if x68 = true then (if 0 < (x8.length : Int) then ((impl_ruleText.f k x0 (rd x8 0) 1).bind fun t246 => (if t246.size + 1 ≤ 9223372036854775807 then (if 0 ≤ (wrap64 (x240000 - 2)) then (if (wrap64 (x240000 - 2)) ≤ (wrap64 ((wrap64 (x240000 - 2)) + 1)) then (if (wrap64 ((wrap64 (x240000 - 2)) + 1)) ≤ 2 then (if (t246 ++ (⟨#[32]⟩ : ByteArray)).size + ((⟨#[43, 45]⟩ : ByteArray).extract ((wrap64 (x240000 - 2)) : Int).toNat ((wrap64 ((wrap64 (x240000 - 2)) + 1)) : Int).toNat).size ≤ 9223372036854775807 then (if ((t246 ++ (⟨#[32]⟩ : ByteArray)) ++ ((⟨#[43, 45]⟩ : ByteArray).extract ((wrap64 (x240000 - 2)) : Int).toNat ((wrap64 ((wrap64 (x240000 - 2)) + 1)) : Int).toNat)).size + 1 ≤ 9223372036854775807 then (if 1 < (x8.length : Int) then ((impl_ruleText.f k x0 (rd x8 1) 2).bind fun t248 => (if (((t246 ++ (⟨#[32]⟩ : ByteArray)) ++ ((⟨#[43, 45]⟩ : ByteArray).extract ((wrap64 (x240000 - 2)) : Int).toNat ((wrap64 ((wrap64 (x240000 - 2)) + 1)) : Int).toNat)) ++ (⟨#[32]⟩ : ByteArray)).size + t248.size ≤ 9223372036854775807 then (if 1 < x2 then (if 2 + ((((t246 ++ (⟨#[32]⟩ : ByteArray)) ++ ((⟨#[43, 45]⟩ : ByteArray).extract ((wrap64 (x240000 - 2)) : Int).toNat ((wrap64 ((wrap64 (x240000 - 2)) + 1)) : Int).toNat)) ++ (⟨#[32]⟩ : ByteArray)) ++ t248).size ≤ 9223372036854775807 then (if ((⟨#[40, 32]⟩ : ByteArray) ++ ((((t246 ++ (⟨#[32]⟩ : ByteArray)) ++ ((⟨#[43, 45]⟩ : ByteArray).extract ((wrap64 (x240000 - 2)) : Int).toNat ((wrap64 ((wrap64 (x240000 - 2)) + 1)) : Int).toNat)) ++ (⟨#[32]⟩ : ByteArray)) ++ t248)).size + 2 ≤ 9223372036854775807 then (some (((⟨#[40, 32]⟩ : ByteArray) ++ ((((t246 ++ (⟨#[32]⟩ : ByteArray)) ++ ((⟨#[43, 45]⟩ : ByteArray).extract ((wrap64 (x240000 - 2)) : Int).toNat ((wrap64 ((wrap64 (x240000 - 2)) + 1)) : Int).toNat)) ++ (⟨#[32]⟩ : ByteArray)) ++ t248)) ++ (⟨#[32, 41]⟩ : ByteArray))) else (none)) else (none)) else (some ((((t246 ++ (⟨#[32]⟩ : ByteArray)) ++ ((⟨#[43, 45]⟩ : ByteArray).extract ((wrap64 (x240000 - 2)) : Int).toNat ((wrap64 ((wrap64 (x240000 - 2)) + 1)) : Int).toNat)) ++ (⟨#[32]⟩ : ByteArray)) ++ t248))) else (none))) else (none)) else (none)) else (none)) else (none)) else (none)) else (none)) else (none))) else (none)) else (if x19 = 4 then (impl_ruleText.j1 k x0 x2 x8 (x19 == 4) x240000 x240001) else (impl_ruleText.j1 k x0 x2 x8 (x19 == 5) x240000 x240001))
def impl_ruleText.j1 : Nat → List (S33) → Int → List Int → Bool → Int → Int → Option (ByteArray)
 | 0, _, _, _, _, _, _ => none
 | k + 1, x0, x2, x8, x93, x240000, x240001 => if x93 = true then (if 0 < (x8.length : Int) then ((impl_ruleText.f k x0 (rd x8 0) 2).bind fun t250 => (if t250.size + 1 ≤ 9223372036854775807 then (if 0 ≤ (wrap64 (x240000 - 4)) then (if (wrap64 (x240000 - 4)) ≤ (wrap64 ((wrap64 (x240000 - 4)) + 1)) then (if (wrap64 ((wrap64 (x240000 - 4)) + 1)) ≤ 2 then (if (t250 ++ (⟨#[32]⟩ : ByteArray)).size + ((⟨#[42, 47]⟩ : ByteArray).extract ((wrap64 (x240000 - 4)) : Int).toNat ((wrap64 ((wrap64 (x240000 - 4)) + 1)) : Int).toNat).size ≤ 9223372036854775807 then (if ((t250 ++ (⟨#[32]⟩ : ByteArray)) ++ ((⟨#[42, 47]⟩ : ByteArray).extract ((wrap64 (x240000 - 4)) : Int).toNat ((wrap64 ((wrap64 (x240000 - 4)) + 1)) : Int).toNat)).size + 1 ≤ 9223372036854775807 then (if 1 < (x8.length : Int) then ((impl_ruleText.f k x0 (rd x8 1) 3).bind fun t252 => (if (((t250 ++ (⟨#[32]⟩ : ByteArray)) ++ ((⟨#[42, 47]⟩ : ByteArray).extract ((wrap64 (x240000 - 4)) : Int).toNat ((wrap64 ((wrap64 (x240000 - 4)) + 1)) : Int).toNat)) ++ (⟨#[32]⟩ : ByteArray)).size + t252.size ≤ 9223372036854775807 then (if 2 < x2 then (if 2 + ((((t250 ++ (⟨#[32]⟩ : ByteArray)) ++ ((⟨#[42, 47]⟩ : ByteArray).extract ((wrap64 (x240000 - 4)) : Int).toNat ((wrap64 ((wrap64 (x240000 - 4)) + 1)) : Int).toNat)) ++ (⟨#[32]⟩ : ByteArray)) ++ t252).size ≤ 9223372036854775807 then (if ((⟨#[40, 32]⟩ : ByteArray) ++ ((((t250 ++ (⟨#[32]⟩ : ByteArray)) ++ ((⟨#[42, 47]⟩ : ByteArray).extract ((wrap64 (x240000 - 4)) : Int).toNat ((wrap64 ((wrap64 (x240000 - 4)) + 1)) : Int).toNat)) ++ (⟨#[32]⟩ : ByteArray)) ++ t252)).size + 2 ≤ 9223372036854775807 then (some (((⟨#[40, 32]⟩ : ByteArray) ++ ((((t250 ++ (⟨#[32]⟩ : ByteArray)) ++ ((⟨#[42, 47]⟩ : ByteArray).extract ((wrap64 (x240000 - 4)) : Int).toNat ((wrap64 ((wrap64 (x240000 - 4)) + 1)) : Int).toNat)) ++ (⟨#[32]⟩ : ByteArray)) ++ t252)) ++ (⟨#[32, 41]⟩ : ByteArray))) else (none)) else (none)) else (some ((((t250 ++ (⟨#[32]⟩ : ByteArray)) ++ ((⟨#[42, 47]⟩ : ByteArray).extract ((wrap64 (x240000 - 4)) : Int).toNat ((wrap64 ((wrap64 (x240000 - 4)) + 1)) : Int).toNat)) ++ (⟨#[32]⟩ : ByteArray)) ++ t252))) else (none))) else (none)) else (none)) else (none)) else (none)) else (none)) else (none)) else (none))) else (none)) else (if 0 < (x8.length : Int) then ((impl_ruleText.f k x0 (rd x8 0) 1).bind fun t254 => (if 3 + t254.size ≤ 9223372036854775807 then (if ((⟨#[105, 102, 32]⟩ : ByteArray) ++ t254).size + 1 ≤ 9223372036854775807 then (if 0 ≤ (wrap64 (x240000 - 6)) then (if (wrap64 (x240000 - 6)) ≤ (wrap64 ((wrap64 (x240000 - 6)) + 1)) then (if (wrap64 ((wrap64 (x240000 - 6)) + 1)) ≤ 3 then (if (((⟨#[105, 102, 32]⟩ : ByteArray) ++ t254) ++ (⟨#[32]⟩ : ByteArray)).size + ((⟨#[60, 61, 62]⟩ : ByteArray).extract ((wrap64 (x240000 - 6)) : Int).toNat ((wrap64 ((wrap64 (x240000 - 6)) + 1)) : Int).toNat).size ≤ 9223372036854775807 then (if ((((⟨#[105, 102, 32]⟩ : ByteArray) ++ t254) ++ (⟨#[32]⟩ : ByteArray)) ++ ((⟨#[60, 61, 62]⟩ : ByteArray).extract ((wrap64 (x240000 - 6)) : Int).toNat ((wrap64 ((wrap64 (x240000 - 6)) + 1)) : Int).toNat)).size + 1 ≤ 9223372036854775807 then (if 1 < (x8.length : Int) then ((impl_ruleText.f k x0 (rd x8 1) 1).bind fun t256 => (if (((((⟨#[105, 102, 32]⟩ : ByteArray) ++ t254) ++ (⟨#[32]⟩ : ByteArray)) ++ ((⟨#[60, 61, 62]⟩ : ByteArray).extract ((wrap64 (x240000 - 6)) : Int).toNat ((wrap64 ((wrap64 (x240000 - 6)) + 1)) : Int).toNat)) ++ (⟨#[32]⟩ : ByteArray)).size + t256.size ≤ 9223372036854775807 then (if ((((((⟨#[105, 102, 32]⟩ : ByteArray) ++ t254) ++ (⟨#[32]⟩ : ByteArray)) ++ ((⟨#[60, 61, 62]⟩ : ByteArray).extract ((wrap64 (x240000 - 6)) : Int).toNat ((wrap64 ((wrap64 (x240000 - 6)) + 1)) : Int).toNat)) ++ (⟨#[32]⟩ : ByteArray)) ++ t256).size + 6 ≤ 9223372036854775807 then (if 2 < (x8.length : Int) then ((impl_ruleText.f k x0 (rd x8 2) 0).bind fun t258 => (if (((((((⟨#[105, 102, 32]⟩ : ByteArray) ++ t254) ++ (⟨#[32]⟩ : ByteArray)) ++ ((⟨#[60, 61, 62]⟩ : ByteArray).extract ((wrap64 (x240000 - 6)) : Int).toNat ((wrap64 ((wrap64 (x240000 - 6)) + 1)) : Int).toNat)) ++ (⟨#[32]⟩ : ByteArray)) ++ t256) ++ (⟨#[32, 116, 104, 101, 110, 32]⟩ : ByteArray)).size + t258.size ≤ 9223372036854775807 then (if ((((((((⟨#[105, 102, 32]⟩ : ByteArray) ++ t254) ++ (⟨#[32]⟩ : ByteArray)) ++ ((⟨#[60, 61, 62]⟩ : ByteArray).extract ((wrap64 (x240000 - 6)) : Int).toNat ((wrap64 ((wrap64 (x240000 - 6)) + 1)) : Int).toNat)) ++ (⟨#[32]⟩ : ByteArray)) ++ t256) ++ (⟨#[32, 116, 104, 101, 110, 32]⟩ : ByteArray)) ++ t258).size + 6 ≤ 9223372036854775807 then (if 3 < (x8.length : Int) then ((impl_ruleText.f k x0 (rd x8 3) 0).bind fun t260 => (if (((((((((⟨#[105, 102, 32]⟩ : ByteArray) ++ t254) ++ (⟨#[32]⟩ : ByteArray)) ++ ((⟨#[60, 61, 62]⟩ : ByteArray).extract ((wrap64 (x240000 - 6)) : Int).toNat ((wrap64 ((wrap64 (x240000 - 6)) + 1)) : Int).toNat)) ++ (⟨#[32]⟩ : ByteArray)) ++ t256) ++ (⟨#[32, 116, 104, 101, 110, 32]⟩ : ByteArray)) ++ t258) ++ (⟨#[32, 101, 108, 115, 101, 32]⟩ : ByteArray)).size + t260.size ≤ 9223372036854775807 then (if 0 < x2 then (if 2 + ((((((((((⟨#[105, 102, 32]⟩ : ByteArray) ++ t254) ++ (⟨#[32]⟩ : ByteArray)) ++ ((⟨#[60, 61, 62]⟩ : ByteArray).extract ((wrap64 (x240000 - 6)) : Int).toNat ((wrap64 ((wrap64 (x240000 - 6)) + 1)) : Int).toNat)) ++ (⟨#[32]⟩ : ByteArray)) ++ t256) ++ (⟨#[32, 116, 104, 101, 110, 32]⟩ : ByteArray)) ++ t258) ++ (⟨#[32, 101, 108, 115, 101, 32]⟩ : ByteArray)) ++ t260).size ≤ 9223372036854775807 then (if ((⟨#[40, 32]⟩ : ByteArray) ++ ((((((((((⟨#[105, 102, 32]⟩ : ByteArray) ++ t254) ++ (⟨#[32]⟩ : ByteArray)) ++ ((⟨#[60, 61, 62]⟩ : ByteArray).extract ((wrap64 (x240000 - 6)) : Int).toNat ((wrap64 ((wrap64 (x240000 - 6)) + 1)) : Int).toNat)) ++ (⟨#[32]⟩ : ByteArray)) ++ t256) ++ (⟨#[32, 116, 104, 101, 110, 32]⟩ : ByteArray)) ++ t258) ++ (⟨#[32, 101, 108, 115, 101, 32]⟩ : ByteArray)) ++ t260)).size + 2 ≤ 9223372036854775807 then (some (((⟨#[40, 32]⟩ : ByteArray) ++ ((((((((((⟨#[105, 102, 32]⟩ : ByteArray) ++ t254) ++ (⟨#[32]⟩ : ByteArray)) ++ ((⟨#[60, 61, 62]⟩ : ByteArray).extract ((wrap64 (x240000 - 6)) : Int).toNat ((wrap64 ((wrap64 (x240000 - 6)) + 1)) : Int).toNat)) ++ (⟨#[32]⟩ : ByteArray)) ++ t256) ++ (⟨#[32, 116, 104, 101, 110, 32]⟩ : ByteArray)) ++ t258) ++ (⟨#[32, 101, 108, 115, 101, 32]⟩ : ByteArray)) ++ t260)) ++ (⟨#[32, 41]⟩ : ByteArray))) else (none)) else (none)) else (some ((((((((((⟨#[105, 102, 32]⟩ : ByteArray) ++ t254) ++ (⟨#[32]⟩ : ByteArray)) ++ ((⟨#[60, 61, 62]⟩ : ByteArray).extract ((wrap64 (x240000 - 6)) : Int).toNat ((wrap64 ((wrap64 (x240000 - 6)) + 1)) : Int).toNat)) ++ (⟨#[32]⟩ : ByteArray)) ++ t256) ++ (⟨#[32, 116, 104, 101, 110, 32]⟩ : ByteArray)) ++ t258) ++ (⟨#[32, 101, 108, 115, 101, 32]⟩ : ByteArray)) ++ t260))) else (none))) else (none)) else (none)) else (none))) else (none)) else (none)) else (none))) else (none)) else (none)) else (none)) else (none)) else (none)) else (none)) else (none)) else (none))) else (none))
def impl_ruleText.f : Nat → List (S33) → Int → Int → Option (ByteArray)
 | 0, _, _, _ => none
 | k + 1, l0, a1, a2 => if 0 ≤ a1 then (if a1 < (l0.length : Int) then ((impl_partNeeds.f k l0 a1).bind fun t240 => (if ((rd_T33 l0 a1).f0) = 0 then ((strconv_Itoa.f ((rd_T33 l0 a1).f1)).bind fun t243 => (some t243)) else (if ((rd_T33 l0 a1).f0) = 1 then (if 0 ≤ ((rd_T33 l0 a1).f1) then (if ((rd_T33 l0 a1).f1) < 5 then (some (rdOf ByteArray.empty fieldNames_ ((rd_T33 l0 a1).f1))) else (none)) else (none)) else (if ((rd_T33 l0 a1).f0) = 2 then (impl_ruleText.j0 k l0 a2 t240 ((rd_T33 l0 a1).f0) (((rd_T33 l0 a1).f0) == 2) ((rd_T33 l0 a1).f0) ((rd_T33 l0 a1).f1)) else (impl_ruleText.j0 k l0 a2 t240 ((rd_T33 l0 a1).f0) (((rd_T33 l0 a1).f0) == 3) ((rd_T33 l0 a1).f0) ((rd_T33 l0 a1).f1)))))) else (none)) else (none)
end
def impl_ruleText.T6 : Bool × List (List Nat × List Nat) := (true, [([], []), ([], []), ([1], [1]), ([2], [2]), ([0, 3], [0, 3]), ([4], [4]), ([5], [5]), ([], []), ([7], [7]), ([8], [8]), ([], []), ([10], [10]), ([11], [11]), ([12], [12]), ([9, 13], [9, 13]), ([6, 14], [6, 14]), ([15], [15]), ([], []), ([], []), ([18], [18]), ([19], [19]), ([17, 20, 4], [17, 20]), ([16, 21], [16, 21]), ([22], [22]), ([], []), ([], []), ([25], [25]), ([26], [26]), ([24, 27, 21], [24, 27]), ([23, 28], [23, 28]), ([29], [29]), ([], []), ([], []), ([32], [32]), ([33], [33]), ([31, 34, 28], [31, 34]), ([30, 35], [30, 35]), ([36, 35, 0, 1, 2, 3, 4, 5, 6, 7, 8, 9, 10, 11, 12, 13, 14, 15, 16, 17, 18, 19, 20, 21, 22, 23, 24, 25, 26, 27, 28, 29, 30, 31, 32, 33, 34, 35, 36], [36])])
def impl_ruleText.B6 : List Nat := [0, 0, 2, 6, 15, 31, 63, 0, 128, 384, 0, 1024, 3072, 7168, 16256, 32767, 65535, 0, 0, 262144, 786432, 1966111, 4194303, 8388607, 0, 0, 33554432, 100663296, 255721503, 536870911, 1073741823, 0, 0, 4294967296, 12884901888, 32736411679, 68719476735, 137438953471]
theorem impl_ruleText.tab6 : rtab .any (opsOf Tryd.f13 6) = impl_ruleText.T6 := by kernel_rfl
theorem impl_ruleText.bits6 : waitsOk impl_ruleText.T6.2 impl_ruleText.B6 = true := by kernel_rfl
def impl_ruleText.T14 : Bool × List (List Nat × List Nat) := (true, [([], []), ([], []), ([1], [1]), ([2], [2]), ([0, 3], [0, 3]), ([4], [4]), ([], []), ([6], [6]), ([7], [7]), ([], []), ([9], [9]), ([10], [10]), ([11], [11]), ([8, 12], [8, 12]), ([5, 13], [5, 13]), ([14], [14]), ([], []), ([], []), ([17], [17]), ([18], [18]), ([16, 19, 4], [16, 19]), ([15, 20], [15, 20]), ([21, 20, 0, 1, 2, 3, 4, 5, 6, 7, 8, 9, 10, 11, 12, 13, 14, 15, 16, 17, 18, 19, 20, 21], [21])])
def impl_ruleText.B14 : List Nat := [0, 0, 2, 6, 15, 31, 0, 64, 192, 0, 512, 1536, 3584, 8128, 16383, 32767, 0, 0, 131072, 393216, 983071, 2097151, 4194303]
theorem impl_ruleText.tab14 : rtab .any (opsOf Tryd.f13 14) = impl_ruleText.T14 := by kernel_rfl
theorem impl_ruleText.bits14 : waitsOk impl_ruleText.T14.2 impl_ruleText.B14 = true := by kernel_rfl
def impl_ruleText.T18 : Bool × List (List Nat × List Nat) := (true, [([], []), ([], []), ([1], [1]), ([2], [2]), ([0, 3], [0, 3]), ([4], [4]), ([], []), ([6], [6]), ([7], [7]), ([], []), ([9], [9]), ([10], [10]), ([11], [11]), ([8, 12], [8, 12]), ([5, 13], [5, 13]), ([14], [14]), ([], []), ([], []), ([17], [17]), ([18], [18]), ([16, 19, 4], [16, 19]), ([15, 20], [15, 20]), ([21, 20, 0, 1, 2, 3, 4, 5, 6, 7, 8, 9, 10, 11, 12, 13, 14, 15, 16, 17, 18, 19, 20, 21], [21])])
def impl_ruleText.B18 : List Nat := [0, 0, 2, 6, 15, 31, 0, 64, 192, 0, 512, 1536, 3584, 8128, 16383, 32767, 0, 0, 131072, 393216, 983071, 2097151, 4194303]
theorem impl_ruleText.tab18 : rtab .any (opsOf Tryd.f13 18) = impl_ruleText.T18 := by kernel_rfl
theorem impl_ruleText.bits18 : waitsOk impl_ruleText.T18.2 impl_ruleText.B18 = true := by kernel_rfl
set_option maxHeartbeats 60000000 in
set_option maxRecDepth 100000 in
theorem impl_ruleText.calls (k : Nat) : ∀ (A0 : Option Addr) (c0 : Nat) (l0 : List (S33)) (a1 : Int) (a2 : Int) (r : ByteArray) (w : World) (hr0 : Kd.C k33 w A0 l0.length l0) (hc0 : l0.length ≤ c0) (h : impl_ruleText.f k l0 a1 a2 = some r) (hL : LaidW w),
  Calls Tryd.prog 13 #[.slice A0 l0.length c0, .int .i64 a1, .int .i64 a2] w fun e w' => e = .returned (.string r) ∧ Below w.heap.size w w' := by
 induction k using Nat.strongRecOn with
 | _ k ih =>
 intro A0 c0 l0 a1 a2 r w hr0 hc0 h hL
 have HLw := Aside0.mk hL
 clear hL
 have HRg0 := Aside0.mk (LaidW.names HLw.out)
 cases k with
 | zero => exact absurd h (by simp [impl_ruleText.f])
 | succ k =>
 simp only [impl_ruleText.f] at h
 have hu33 := Tryd.underlying33
 have HR0 := Aside0.mk hr0
 have HC0 := Aside0.mk hc0
 clear hr0 hc0
 have HB := Aside0.mk (Below.refl w.heap.size w)
 have H := h
 clear h
 by_cases c4 : 0 ≤ a1
 case neg => rw [if_neg c4] at H; exact absurd H (by simp)
 rw [if_pos c4] at H
 have c4b0 := decide_eq_true c4
 clear c4
 by_cases c5 : a1 < (l0.length : Int)
 case neg => rw [if_neg c5] at H; exact absurd H (by simp)
 rw [if_pos c5] at H
 have c5b0 := decide_eq_true c5
 clear c5
 replace H := Option.bind_eq_some_iff.mp H
 obtain ⟨t240, A60, H⟩ := H
 try dsimp only at H
 have A6 := Aside0.mk A60
 clear A60
 by_cases c7 : ((rd_T33 l0 a1).f0) = 0
 ·rw [if_pos c7] at H
  have c7b0 : (((rd_T33 l0 a1).f0) == 0) = true := beq_iff_eq.mpr c7
  have c7b1 : (((rd_T33 l0 a1).f0) != 0) = false := bne_eq_false_iff_eq.mpr c7
  clear c7
  replace H := Option.bind_eq_some_iff.mp H
  obtain ⟨t243, A80, H⟩ := H
  try dsimp only at H
  have A8 := Aside0.mk A80
  clear A80
  obtain rfl := Option.some.inj H
  have p238 : 0 ≤ (a1 : Int) := of_decide_eq_true (by first | (with_reducible assumption) | assumption)
  have q238 : a1 < (l0.length : Int) := of_decide_eq_true (by first | (with_reducible assumption) | assumption)
  obtain ⟨ad238, e238, hx238_0, hx238_1⟩ := at_T33 HR0.out a1 p238 q238
  cases e238
  replace p238 := eq_true p238
  replace q238 := eq_true q238
  go_enter Tryd.func13, Tryd.ntmps13
  go_wp2_with (first | ((with_reducible refine gate_dst (N := 7) rfl ?_); refine bv_ 7 (cs := #[.int .i64 0, .int .i64 0]) (t := 33) ?_; intro gb239 hg w9 hbox hb; have BK239 := Aside0.mk (hbox); have GW239 := gs_ hg HB; have GE239 := gs_ hg HB; replace HB := hbs_ HB hb; clear hb hbox hg; obtain ⟨hcz10_0, hcz10_1, hfz10_0, hfz10_1⟩ := bx2 BK239) | ((with_reducible refine gate_callee (f := 20) rfl ?_); refine gl_ (some 17) Tryd.func20 #[.slice (some ad238) l0.length c0, .int .i64 a1] rfl rfl rfl ?_; (with_reducible refine (impl_partNeeds.calls k _ _ l0 a1 t240 _ ?side1 ?side2 A6.out).mono ?_); (case side1 => exact Kd.C_below HR0.out (hb_ HB)); (case side2 => exact HC0.out); rintro e w11 ⟨v241, rfl, ho0, hb⟩; refine ⟨_, rfl, ?_⟩; have HO242 := Kd.R_lo ho0 HB; replace BK239 := Aside0.mk (blk_below (g := gb239) (o := .cells #[.int .i64 ((rd_T33 l0 a1).f0), .int .i64 ((rd_T33 l0 a1).f1)] 33 (0, 0)) (kpq_ (kputs BK239 [(0, _), (1, _)])) hb); replace HB := hbs_ HB hb; obtain ⟨hcz12_0, hcz12_1, hfz12_0, hfz12_1⟩ := bx2 BK239; try clear HO242) | ((with_reducible refine gate_callee (f := 21) rfl ?_); refine gl_ (some 61) Tryd.func21 #[.int .i64 ((rd_T33 l0 a1).f1)] rfl rfl rfl ?_; (with_reducible refine (strconv_Itoa.calls ((rd_T33 l0 a1).f1) t243 _ A8.out (by exact LaidW.step HLw (hb_ HB))).mono ?_); rintro e w13 ⟨rfl, hb⟩; refine ⟨_, rfl, ?_⟩; replace BK239 := kb_ BK239 hb; replace HB := hbs_ HB hb))
  go_ret
  exact ad_ (hb_ HB)
 rw [if_neg c7] at H
 have c7b0 : (((rd_T33 l0 a1).f0) == 0) = false := beq_eq_false_iff_ne.mpr c7
 have c7b1 : (((rd_T33 l0 a1).f0) != 0) = true := bne_iff_ne.mpr c7
 by_cases c14 : ((rd_T33 l0 a1).f0) = 1
 ·rw [if_pos c14] at H
  have c14b0 : (((rd_T33 l0 a1).f0) == 1) = true := beq_iff_eq.mpr c14
  have c14b1 : (((rd_T33 l0 a1).f0) != 1) = false := bne_eq_false_iff_eq.mpr c14
  clear c14
  by_cases c15 : 0 ≤ ((rd_T33 l0 a1).f1)
  case neg => rw [if_neg c15] at H; exact absurd H (by simp)
  rw [if_pos c15] at H
  have c15b0 := decide_eq_true c15
  clear c15
  by_cases c16 : ((rd_T33 l0 a1).f1) < 5
  case neg => rw [if_neg c16] at H; exact absurd H (by simp)
  rw [if_pos c16] at H
  have c16b0 := decide_eq_true c16
  clear c16
  obtain rfl := Option.some.inj H
  have p238 : 0 ≤ (a1 : Int) := of_decide_eq_true (by first | (with_reducible assumption) | assumption)
  have q238 : a1 < (l0.length : Int) := of_decide_eq_true (by first | (with_reducible assumption) | assumption)
  obtain ⟨ad238, e238, hx238_0, hx238_1⟩ := at_T33 HR0.out a1 p238 q238
  cases e238
  replace p238 := eq_true p238
  replace q238 := eq_true q238
  go_enter Tryd.func13, Tryd.ntmps13
  go_wp2_with (first | ((with_reducible refine gate_dst (N := 7) rfl ?_); refine bv_ 7 (cs := #[.int .i64 0, .int .i64 0]) (t := 33) ?_; intro gb239 hg w17 hbox hb; have BK239 := Aside0.mk (hbox); have GW239 := gs_ hg HB; have GE239 := gs_ hg HB; replace HB := hbs_ HB hb; clear hb hbox hg; obtain ⟨hcz18_0, hcz18_1, hfz18_0, hfz18_1⟩ := bx2 BK239) | ((with_reducible refine gate_callee (f := 20) rfl ?_); refine gl_ (some 17) Tryd.func20 #[.slice (some ad238) l0.length c0, .int .i64 a1] rfl rfl rfl ?_; (with_reducible refine (impl_partNeeds.calls k _ _ l0 a1 t240 _ ?side1 ?side2 A6.out).mono ?_); (case side1 => exact Kd.C_below HR0.out (hb_ HB)); (case side2 => exact HC0.out); rintro e w19 ⟨v241, rfl, ho0, hb⟩; refine ⟨_, rfl, ?_⟩; have HO242 := Kd.R_lo ho0 HB; replace BK239 := Aside0.mk (blk_below (g := gb239) (o := .cells #[.int .i64 ((rd_T33 l0 a1).f0), .int .i64 ((rd_T33 l0 a1).f1)] 33 (0, 0)) (kpq_ (kputs BK239 [(0, _), (1, _)])) hb); replace HB := hbs_ HB hb; obtain ⟨hcz20_0, hcz20_1, hfz20_0, hfz20_1⟩ := bx2 BK239; have p244 : 0 ≤ (((rd_T33 l0 a1).f1) : Int) := of_decide_eq_true (by first | (with_reducible assumption) | assumption); have q244 : ((rd_T33 l0 a1).f1) < (fieldNames_.length : Int) := of_decide_eq_true (by first | (with_reducible assumption) | assumption); have ql244 : ((((rd_T33 l0 a1).f1) : Int) < (5 : Int)) = True := eq_true (of_decide_eq_true (by first | (with_reducible assumption) | assumption)); obtain ⟨ad244, e244, hx244_0⟩ := Kd.at_string HRg0.out ((rd_T33 l0 a1).f1) p244 q244; obtain rfl : (⟨0, 0, none⟩ : Addr) = ad244 := (by injection e244); (first | simp only [add_plain] at hx244_0 | simp only [add_at] at hx244_0 | simp only [Addr.add, Nat.zero_add] at hx244_0 | skip); replace hx244_0 := hc_ HB hx244_0; replace p244 := eq_true p244; replace q244 := eq_true q244))
  go_ret
  exact ad_ (hb_ HB)
 refine ?z1_
 let rec p1_ : type_of% ?z1_ := by(
 rw [if_neg c14] at H
 have c14b0 : (((rd_T33 l0 a1).f0) == 1) = false := beq_eq_false_iff_ne.mpr c14
 have c14b1 : (((rd_T33 l0 a1).f0) != 1) = true := bne_iff_ne.mpr c14
 have HC21 := Aside0.mk H
 clear H
 have p238 : 0 ≤ (a1 : Int) := of_decide_eq_true (by first | (with_reducible assumption) | assumption)
 have q238 : a1 < (l0.length : Int) := of_decide_eq_true (by first | (with_reducible assumption) | assumption)
 obtain ⟨ad238, e238, hx238_0, hx238_1⟩ := at_T33 HR0.out a1 p238 q238
 cases e238
 replace p238 := eq_true p238
 replace q238 := eq_true q238
 go_enter Tryd.func13, Tryd.ntmps13
 go_upto_if 68 with (first | ((with_reducible refine gate_dst (N := 7) rfl ?_); refine bv_ 7 (cs := #[.int .i64 0, .int .i64 0]) (t := 33) ?_; intro gb239 hg w22 hbox hb; have BK239 := Aside0.mk (hbox); have GW239 := gs_ hg HB; have GE239 := gs_ hg HB; replace HB := hbs_ HB hb; clear hb hbox hg; obtain ⟨hcz23_0, hcz23_1, hfz23_0, hfz23_1⟩ := bx2 BK239) | ((with_reducible refine gate_callee (f := 20) rfl ?_); refine gl_ (some 17) Tryd.func20 #[.slice (some ad238) l0.length c0, .int .i64 a1] rfl rfl rfl ?_; (with_reducible refine (impl_partNeeds.calls k _ _ l0 a1 t240 _ ?side1 ?side2 A6.out).mono ?_); (case side1 => exact Kd.C_below HR0.out (hb_ HB)); (case side2 => exact HC0.out); rintro e w24 ⟨v241, rfl, ho0, hb⟩; refine ⟨_, rfl, ?_⟩; have HO242 := Kd.R_lo ho0 HB; replace BK239 := Aside0.mk (blk_below (g := gb239) (o := .cells #[.int .i64 ((rd_T33 l0 a1).f0), .int .i64 ((rd_T33 l0 a1).f1)] 33 (0, 0)) (kpq_ (kputs BK239 [(0, _), (1, _)])) hb); replace HB := hbs_ HB hb; obtain ⟨hcz25_0, hcz25_1, hfz25_0, hfz25_1⟩ := bx2 BK239))
 (try simp only [Act.put, List.setIfInBounds_toArray, List.set_cons_zero, List.set_cons_succ])
 go_cut [68] (fun v68 wc => ∃ (kq : Nat) (x68_20 : Bool), v68 = .bool x68_20 ∧ Aside0 (impl_ruleText.j0 kq l0 a2 t240 ((rd_T33 l0 a1).f0) x68_20 ((rd_T33 l0 a1).f0) ((rd_T33 l0 a1).f1) = some r) ∧ Aside0 (kq ≤ k) ∧ Aside0 (Kd.R (Kd.int .i64) 3 wc w.heap.size (fun _ => True) v241 t240) ∧ Aside0 (wc.heap[gb239]? = some (.cells #[.int .i64 ((rd_T33 l0 a1).f0), .int .i64 ((rd_T33 l0 a1).f1)] 33 (0, 0))) ∧ Aside0 (Below w.heap.size w wc))
 case first =>
  have H := HC21.out
  clear HC21
  by_cases c26 : ((rd_T33 l0 a1).f0) = 2
  ·rw [if_pos c26] at H
   have c26b0 : (((rd_T33 l0 a1).f0) == 2) = true := beq_iff_eq.mpr c26
   have c26b1 : (((rd_T33 l0 a1).f0) != 2) = false := bne_eq_false_iff_eq.mpr c26
   clear c26
   (first | rw [c26b0] | (simp only [i64_w, i32_w]; rw [c26b0]) | skip)
   have H' := Aside0.mk H
   clear H
   go_wp2
   go_meet
   case rel => exact ⟨_, ((((rd_T33 l0 a1).f0) == 2)), (by first | rfl | (simp; done) | (simp [*]; done)), H', ⟨by first | omega | exact Nat.le_refl _⟩, ⟨Kd.R_p HO242⟩, ⟨kp_ BK239⟩, ⟨hb_ HB⟩⟩
  rw [if_neg c26] at H
  have c26b0 : (((rd_T33 l0 a1).f0) == 2) = false := beq_eq_false_iff_ne.mpr c26
  have c26b1 : (((rd_T33 l0 a1).f0) != 2) = true := bne_iff_ne.mpr c26
  (first | rw [c26b0] | (simp only [i64_w, i32_w]; rw [c26b0]) | skip)
  have H' := Aside0.mk H
  clear H
  go_wp2
  go_meet
  case rel => exact ⟨_, ((((rd_T33 l0 a1).f0) == 3)), (by first | rfl | (simp; done) | (simp [*]; done)), H', ⟨by first | omega | exact Nat.le_refl _⟩, ⟨Kd.R_p HO242⟩, ⟨kp_ BK239⟩, ⟨hb_ HB⟩⟩
 case rest =>
  clear HC21
  obtain ⟨kq, x68_20, rfl, HA, HJ20, HO_8, BK239, HB⟩ := hcut
  cases kq with
  | zero => exact absurd HA.out (by simp [impl_ruleText.j0])
  | succ kj20 => ?_
  have H := HA.out
  clear HA
  simp only [impl_ruleText.j0] at H
  by_cases c27 : x68_20 = true
  ·subst c27
   rw [if_pos rfl] at H
   by_cases c28 : 0 < (t240.length : Int)
   case neg => rw [if_neg c28] at H; exact absurd H (by simp)
   rw [if_pos c28] at H
   have c28b0 := decide_eq_true c28
   have c28b1 : decide (0 < t240.length) = true := decide_eq_true (by omega)
   clear c28
   replace H := Option.bind_eq_some_iff.mp H
   obtain ⟨t246, A290, H⟩ := H
   try dsimp only at H
   have A29 := Aside0.mk A290
   clear A290
   by_cases c30 : t246.size + 1 ≤ 9223372036854775807
   case neg => rw [if_neg c30] at H; exact absurd H (by simp)
   refine ?z2_
   let rec p2_ : type_of% ?z2_ := by(
   rw [if_pos c30] at H
   have c30b0 := eq_true c30
   have c30b1 := decide_eq_true c30
   try have c30b2 : (9223372036854775807 < t246.size + 1) = False := eq_false (Nat.not_lt.2 c30)
   obtain ⟨ji31, hji31⟩ : ∃ j_ : Int, (wrap64 (((rd_T33 l0 a1).f0) - 2)) = j_ := ⟨_, rfl⟩
   replace H : (if 0 ≤ (ji31) then (if (ji31) ≤ (wrap64 ((ji31) + 1)) then (if (wrap64 ((ji31) + 1)) ≤ 2 then (if (t246 ++ (⟨#[32]⟩ : ByteArray)).size + ((⟨#[43, 45]⟩ : ByteArray).extract ((ji31) : Int).toNat ((wrap64 ((ji31) + 1)) : Int).toNat).size ≤ 9223372036854775807 then (if ((t246 ++ (⟨#[32]⟩ : ByteArray)) ++ ((⟨#[43, 45]⟩ : ByteArray).extract ((ji31) : Int).toNat ((wrap64 ((ji31) + 1)) : Int).toNat)).size + 1 ≤ 9223372036854775807 then (if 1 < (t240.length : Int) then ((impl_ruleText.f kj20 l0 (rd t240 1) 2).bind fun t248 => (if (((t246 ++ (⟨#[32]⟩ : ByteArray)) ++ ((⟨#[43, 45]⟩ : ByteArray).extract ((ji31) : Int).toNat ((wrap64 ((ji31) + 1)) : Int).toNat)) ++ (⟨#[32]⟩ : ByteArray)).size + t248.size ≤ 9223372036854775807 then (if 1 < a2 then (if 2 + ((((t246 ++ (⟨#[32]⟩ : ByteArray)) ++ ((⟨#[43, 45]⟩ : ByteArray).extract ((ji31) : Int).toNat ((wrap64 ((ji31) + 1)) : Int).toNat)) ++ (⟨#[32]⟩ : ByteArray)) ++ t248).size ≤ 9223372036854775807 then (if ((⟨#[40, 32]⟩ : ByteArray) ++ ((((t246 ++ (⟨#[32]⟩ : ByteArray)) ++ ((⟨#[43, 45]⟩ : ByteArray).extract ((ji31) : Int).toNat ((wrap64 ((ji31) + 1)) : Int).toNat)) ++ (⟨#[32]⟩ : ByteArray)) ++ t248)).size + 2 ≤ 9223372036854775807 then (some (((⟨#[40, 32]⟩ : ByteArray) ++ ((((t246 ++ (⟨#[32]⟩ : ByteArray)) ++ ((⟨#[43, 45]⟩ : ByteArray).extract ((ji31) : Int).toNat ((wrap64 ((ji31) + 1)) : Int).toNat)) ++ (⟨#[32]⟩ : ByteArray)) ++ t248)) ++ (⟨#[32, 41]⟩ : ByteArray))) else (none)) else (none)) else (some ((((t246 ++ (⟨#[32]⟩ : ByteArray)) ++ ((⟨#[43, 45]⟩ : ByteArray).extract ((ji31) : Int).toNat ((wrap64 ((ji31) + 1)) : Int).toNat)) ++ (⟨#[32]⟩ : ByteArray)) ++ t248))) else (none))) else (none)) else (none)) else (none)) else (none)) else (none)) else (none)) = some r := by first | (rw [hji31] at H; exact H) | (simp only [hji31] at H ⊢; exact H)
   (try rw [hji31] at A29)
   have hji31w : (IntKind.i64.wrap (((rd_T33 l0 a1).f0) - 2)) = ji31 := (i64_w _).trans hji31
   by_cases c32 : 0 ≤ (ji31)
   ·rw [if_pos c32] at H
    have c32b0 := eq_true c32
    have c32b1 := decide_eq_true c32
    clear c32
    by_cases c33 : (ji31) ≤ (wrap64 ((ji31) + 1))
    case neg => rw [if_neg c33] at H; exact absurd H (by simp)
    rw [if_pos c33] at H
    have c33b0 := eq_true c33
    have c33b1 := decide_eq_true c33
    by_cases c34 : (wrap64 ((ji31) + 1)) ≤ 2
    case neg => rw [if_neg c34] at H; exact absurd H (by simp)
    rw [if_pos c34] at H
    have c34b0 := eq_true c34
    have c34b1 := decide_eq_true c34
    by_cases c35 : (t246 ++ (⟨#[32]⟩ : ByteArray)).size + ((⟨#[43, 45]⟩ : ByteArray).extract ((ji31) : Int).toNat ((wrap64 ((ji31) + 1)) : Int).toNat).size ≤ 9223372036854775807
    case neg => rw [if_neg c35] at H; exact absurd H (by simp)
    rw [if_pos c35] at H
    have c35b0 := eq_true c35
    have c35b1 := decide_eq_true c35
    try have c35b2 : (9223372036854775807 < (t246 ++ (⟨#[32]⟩ : ByteArray)).size + ((⟨#[43, 45]⟩ : ByteArray).extract ((ji31) : Int).toNat ((wrap64 ((ji31) + 1)) : Int).toNat).size) = False := eq_false (Nat.not_lt.2 c35)
    have c35b3 : (9223372036854775807 < t246.size + 1 + (((wrap64 ((ji31) + 1)) : Int).toNat - ((ji31) : Int).toNat)) = False := eq_false (Nat.not_lt.2 (by have h_ := c35; have h2_ : ((wrap64 ((ji31) + 1)) : Int) ≤ 2 := of_eq_true (by assumption); simp only [ByteArray.size_append, ByteArray.size_extract, sz_1, sz_2, sz_3, sz_6] at h_; omega))
    by_cases c36 : ((t246 ++ (⟨#[32]⟩ : ByteArray)) ++ ((⟨#[43, 45]⟩ : ByteArray).extract ((ji31) : Int).toNat ((wrap64 ((ji31) + 1)) : Int).toNat)).size + 1 ≤ 9223372036854775807
    case neg => rw [if_neg c36] at H; exact absurd H (by simp)
    rw [if_pos c36] at H
    have c36b0 := eq_true c36
    have c36b1 := decide_eq_true c36
    try have c36b2 : (9223372036854775807 < ((t246 ++ (⟨#[32]⟩ : ByteArray)) ++ ((⟨#[43, 45]⟩ : ByteArray).extract ((ji31) : Int).toNat ((wrap64 ((ji31) + 1)) : Int).toNat)).size + 1) = False := eq_false (Nat.not_lt.2 c36)
    have c36b3 : (9223372036854775807 < t246.size + 1 + ((((wrap64 ((ji31) + 1)) : Int).toNat - ((ji31) : Int).toNat)) + 1) = False := eq_false (Nat.not_lt.2 (by have h_ := c36; have h2_ : ((wrap64 ((ji31) + 1)) : Int) ≤ 2 := of_eq_true (by assumption); simp only [ByteArray.size_append, ByteArray.size_extract, sz_1, sz_2, sz_3, sz_6] at h_; omega))
    by_cases c37 : 1 < (t240.length : Int)
    case neg => rw [if_neg c37] at H; exact absurd H (by simp)
    rw [if_pos c37] at H
    have c37b0 := decide_eq_true c37
    have c37b1 : decide (1 < t240.length) = true := decide_eq_true (by omega)
    clear c37
    replace H := Option.bind_eq_some_iff.mp H
    obtain ⟨t248, A380, H⟩ := H
    try dsimp only at H
    have A38 := Aside0.mk A380
    clear A380
    by_cases c39 : (((t246 ++ (⟨#[32]⟩ : ByteArray)) ++ ((⟨#[43, 45]⟩ : ByteArray).extract ((ji31) : Int).toNat ((wrap64 ((ji31) + 1)) : Int).toNat)) ++ (⟨#[32]⟩ : ByteArray)).size + t248.size ≤ 9223372036854775807
    case neg => rw [if_neg c39] at H; exact absurd H (by simp)
    rw [if_pos c39] at H
    have c39b0 := eq_true c39
    have c39b1 := decide_eq_true c39
    try have c39b2 : (9223372036854775807 < (((t246 ++ (⟨#[32]⟩ : ByteArray)) ++ ((⟨#[43, 45]⟩ : ByteArray).extract ((ji31) : Int).toNat ((wrap64 ((ji31) + 1)) : Int).toNat)) ++ (⟨#[32]⟩ : ByteArray)).size + t248.size) = False := eq_false (Nat.not_lt.2 c39)
    have c39b3 : (9223372036854775807 < t246.size + 1 + ((((wrap64 ((ji31) + 1)) : Int).toNat - ((ji31) : Int).toNat)) + 1 + t248.size) = False := eq_false (Nat.not_lt.2 (by have h_ := c39; have h2_ : ((wrap64 ((ji31) + 1)) : Int) ≤ 2 := of_eq_true (by assumption); simp only [ByteArray.size_append, ByteArray.size_extract, sz_1, sz_2, sz_3, sz_6] at h_; omega))
    by_cases c40 : 1 < a2
    ·rw [if_pos c40] at H
     have c40b0 := decide_eq_true c40
     clear c40
     by_cases c41 : 2 + ((((t246 ++ (⟨#[32]⟩ : ByteArray)) ++ ((⟨#[43, 45]⟩ : ByteArray).extract ((ji31) : Int).toNat ((wrap64 ((ji31) + 1)) : Int).toNat)) ++ (⟨#[32]⟩ : ByteArray)) ++ t248).size ≤ 9223372036854775807
     case neg => rw [if_neg c41] at H; exact absurd H (by simp)
     rw [if_pos c41] at H
     have c41b0 := eq_true c41
     have c41b1 := decide_eq_true c41
     try have c41b2 : (9223372036854775807 < 2 + ((((t246 ++ (⟨#[32]⟩ : ByteArray)) ++ ((⟨#[43, 45]⟩ : ByteArray).extract ((ji31) : Int).toNat ((wrap64 ((ji31) + 1)) : Int).toNat)) ++ (⟨#[32]⟩ : ByteArray)) ++ t248).size) = False := eq_false (Nat.not_lt.2 c41)
     have c41b3 : (9223372036854775807 < 2 + (t246.size + 1 + ((((wrap64 ((ji31) + 1)) : Int).toNat - ((ji31) : Int).toNat)) + 1 + t248.size)) = False := eq_false (Nat.not_lt.2 (by have h_ := c41; have h2_ : ((wrap64 ((ji31) + 1)) : Int) ≤ 2 := of_eq_true (by assumption); simp only [ByteArray.size_append, ByteArray.size_extract, sz_1, sz_2, sz_3, sz_6] at h_; omega))
     by_cases c42 : ((⟨#[40, 32]⟩ : ByteArray) ++ ((((t246 ++ (⟨#[32]⟩ : ByteArray)) ++ ((⟨#[43, 45]⟩ : ByteArray).extract ((ji31) : Int).toNat ((wrap64 ((ji31) + 1)) : Int).toNat)) ++ (⟨#[32]⟩ : ByteArray)) ++ t248)).size + 2 ≤ 9223372036854775807
     case neg => rw [if_neg c42] at H; exact absurd H (by simp)
     refine ?z3_
     let rec p3_ : type_of% ?z3_ := by(
     rw [if_pos c42] at H
     have c42b0 := eq_true c42
     have c42b1 := decide_eq_true c42
     try have c42b2 : (9223372036854775807 < ((⟨#[40, 32]⟩ : ByteArray) ++ ((((t246 ++ (⟨#[32]⟩ : ByteArray)) ++ ((⟨#[43, 45]⟩ : ByteArray).extract ((ji31) : Int).toNat ((wrap64 ((ji31) + 1)) : Int).toNat)) ++ (⟨#[32]⟩ : ByteArray)) ++ t248)).size + 2) = False := eq_false (Nat.not_lt.2 c42)
     have c42b3 : (9223372036854775807 < 2 + (t246.size + 1 + ((((wrap64 ((ji31) + 1)) : Int).toNat - ((ji31) : Int).toNat)) + 1 + t248.size) + 2) = False := eq_false (Nat.not_lt.2 (by have h_ := c42; have h2_ : ((wrap64 ((ji31) + 1)) : Int) ≤ 2 := of_eq_true (by assumption); simp only [ByteArray.size_append, ByteArray.size_extract, sz_1, sz_2, sz_3, sz_6] at h_; omega))
     obtain rfl := Option.some.inj H
     try go_wp2
     replace HO_8 := Aside0.mk (Kd.R_drew HO_8.out)
     replace BK239 := Aside0.mk (blk_drew BK239.out)
     replace HB := Aside0.mk (below_drew1 HB.out)
     obtain ⟨Ao44, co44, eo44⟩ := Kd.R_slice HO_8.out
     (first | subst eo44 | (injection eo44 with f1_ f2_ f3_; have f4_ := f1_.symm; have f5_ := f3_.symm; clear f1_ f2_ f3_; subst f4_; subst f5_))
     have p245 : 0 ≤ (0 : Int) := (by omega)
     have q245 : 0 < (t240.length : Int) := of_decide_eq_true (by first | (with_reducible assumption) | assumption)
     obtain ⟨ad245, e245, hx245_0⟩ := Kd.at_int (Kd.R_reads' HO_8.out).2.2 0 p245 q245
     cases e245
     have qi245 : (0 < t240.length) = True := eq_true (by omega)
     (try rw [show ((0 : Int)).toNat = 0 from rfl] at hx245_0)
     (try rw [Addr.add_zero'] at hx245_0)
     replace p245 := eq_true p245
     replace q245 := eq_true q245
     have p247 : 0 ≤ (1 : Int) := (by omega)
     have q247 : 1 < (t240.length : Int) := of_decide_eq_true (by first | (with_reducible assumption) | assumption)
     obtain ⟨ad247, e247, hx247_0⟩ := Kd.at_int (Kd.R_reads' HO_8.out).2.2 1 p247 q247
     obtain rfl : ad245 = ad247 := (by injection e247)
     (try simp only [show (1 : Int).toNat = 1 from rfl, Nat.reduceMul, Nat.reduceEqDiff, Go.Addr.add, ↓reduceIte] at hx247_0)
     have qi247 : (1 < t240.length) = True := eq_true (by omega)
     (try rw [show ((1 : Int)).toNat = 1 from rfl] at hx247_0)
     replace p247 := eq_true p247
     replace q247 := eq_true q247
     refine start_ (n := 23) (S := fun w' => w'.cell? ⟨gb239, 0, none⟩ = some (.int .i64 ((rd_T33 l0 a1).f0)) ∧ w'.cell? ⟨gb239, 1, none⟩ = some (.int .i64 ((rd_T33 l0 a1).f1)) ∧ w'.cell? ad245 = some (.int .i64 (rd t240 0)) ∧ w'.cell? ⟨ad245.block, ad245.off + 1, none⟩ = some (.int .i64 (rd t240 1))) (ds := []) (bb 23 0) (by kernel_rfl) rfl rfl ⟨(blk_cell BK239.out 0).trans rfl, (blk_cell BK239.out 1).trans rfl, hx245_0, hx247_0⟩ (fun hHeld => ?_); refine with_tabW impl_ruleText.tab14 impl_ruleText.bits14 (fun HT_ HW_ => ?_)
     generalize wc.drew = w43 at HO_8 BK239 HB hx245_0 hx247_0 hHeld ⊢
     refine pl_ HT_ 0 (some 71) (bb 23 1) (h := ?_)
     refine pl_ HT_ 1 (some 72) (bb 23 3) (h := ?_)
     refine pl_ HT_ 2 (some 73) (bb 23 7) (h := ?_)
     refine pl_ HT_ 6 (some 77) (bb 23 71) (h := ?_)
     refine pl_ HT_ 9 (some 80) (bb 23 583) (h := ?_)
     refine pl_ HT_ 16 (some 87) (bb 23 66119) (h := ?_)
     refine pl_ HT_ 17 (some 88) (bb 23 197191) (h := ?_)
     refine pl_ HT_ 18 (some 89) (bb 23 459335) (h := ?_)
     refine tk_ HT_ HW_ hHeld 3 (some 74) (bb 23 459343) (h := ?_)
     refine tk_ HT_ HW_ hHeld 7 (some 78) (bb 23 459471) (h := ?_)
     refine pl_ HT_ 8 (some 79) (bb 23 459727) (h := ?_)
     refine tk_ HT_ HW_ hHeld 10 (some 81) (bb 23 460751) (h := ?_)
     refine pl_ HT_ 11 (some 82) (bb 23 462799) (h := ?_)
     refine pl_ HT_ 12 (some 83) (bb 23 466895) (h := ?_)
     refine pl_ HT_ 13 (some 84) (bb 23 475087) (h := ?_)
     refine tk_ HT_ HW_ hHeld 19 (some 90) (bb 23 999375) (h := ?_)
     refine one_ (i := 4) (N := some 75) (bb 23 999391) rfl rfl (one_of HT_.out (by kernel_rfl)) (by decide) (fun K hK => ?_)
     refine goes_ Tryd.func13 (by kernel_rfl) rfl #[.slice (some ad238) l0.length c0, .int .i64 (rd t240 0), .int .i64 1] (by rfl) rfl rfl (by (try simp only [List.map_toArray, List.map_cons, List.map_nil]); first | done | rfl | (simp only [List.length_drop, List.length_take]; rfl)) ?_
     with_reducible refine (ih kj20 (by have := HJ20.out; omega) _ _ l0 (rd t240 0) 1 t246 _ ?side1 ?side2 A29.out (by exact LaidW.step HLw (hb_ HB))).mono ?_
     (case side1 => exact Kd.C_w HR0 HB)
     (case side2 => exact HC0.out)
     rintro e w45 ⟨rfl, hb⟩
     have HS2_ := (hb.cell (World.block_lt_of_cell? _ _ (hHeld.2.2.1))).trans (hHeld.2.2.1)
     have HS3_ := (hb.cell (World.block_lt_of_cell? _ _ (hHeld.2.2.2))).trans (hHeld.2.2.2)
     refine ⟨_, rfl, ?_⟩
     replace HO_8 := Aside0.mk (Kd.R_below (Kd.R_p HO_8) hb)
     replace BK239 := Aside0.mk (blk_below (kp_ BK239) hb)
     replace HB := Aside0.mk (below_step (hb_ HB) hb)
     refine hK.out _ _ ⟨(blk_cell BK239.out 0).trans rfl, (blk_cell BK239.out 1).trans rfl, HS2_, HS3_⟩ (fun hHeld => ?_)
     clear hK K
     refine nm_ (some 75) (h := ?_)
     refine pl_ HT_ 5 (some 76) (bb 23 999423) (h := ?_)
     refine pl_ HT_ 14 (some 85) (bb 23 1015807) (h := ?_)
     refine pl_ HT_ 15 (some 86) (bb 23 1048575) (h := ?_)
     refine one_ (i := 20) (N := some 91) (bb 23 2097151) rfl rfl (one_of HT_.out (by kernel_rfl)) (by decide) (fun K hK => ?_)
     refine goes_ Tryd.func13 (by kernel_rfl) rfl #[.slice (some ad238) l0.length c0, .int .i64 (rd t240 1), .int .i64 2] (by rfl) rfl rfl (by (try simp only [List.map_toArray, List.map_cons, List.map_nil]); first | done | rfl | (simp only [List.length_drop, List.length_take]; rfl)) ?_
     with_reducible refine (ih kj20 (by have := HJ20.out; omega) _ _ l0 (rd t240 1) 2 t248 _ ?side1 ?side2 A38.out (by exact LaidW.step HLw (hb_ HB))).mono ?_
     (case side1 => exact Kd.C_w HR0 HB)
     (case side2 => exact HC0.out)
     rintro e w46 ⟨rfl, hb⟩
     have HS2_ := (hb.cell (World.block_lt_of_cell? _ _ (hHeld.2.2.1))).trans (hHeld.2.2.1)
     have HS3_ := (hb.cell (World.block_lt_of_cell? _ _ (hHeld.2.2.2))).trans (hHeld.2.2.2)
     refine ⟨_, rfl, ?_⟩
     replace HO_8 := Aside0.mk (Kd.R_below (Kd.R_p HO_8) hb)
     replace BK239 := Aside0.mk (blk_below (kp_ BK239) hb)
     replace HB := Aside0.mk (below_step (hb_ HB) hb)
     refine hK.out _ _ ⟨(blk_cell BK239.out 0).trans rfl, (blk_cell BK239.out 1).trans rfl, HS2_, HS3_⟩ (fun hHeld => ?_)
     clear hK K
     refine nm_ (some 91) (h := ?_)
     refine pl_ HT_ 21 (some 92) (bb 23 4194303) (h := ?_)
     refine pl_ HT_ 22 (some 9) (bb 23 8388607) (h := ?_)
     refine done_ (done_of HT_.out (by kernel_rfl)) ?_
     try go_wp2
     go_ret
     exact ⟨by first | rfl | (simp [errW_none, errW_some] <;> rfl) | (simp only [← hji31]; first | rfl | (simp [errW_none, errW_some] <;> rfl)) | (simp [*, errW_none, errW_some] <;> rfl), hb_ HB⟩
     )
     exact p3_
    refine ?z4_
    let rec p4_ : type_of% ?z4_ := by(
    rw [if_neg c40] at H
    have c40b0 := decide_eq_false c40
    clear c40
    obtain rfl := Option.some.inj H
    try go_wp2
    replace HO_8 := Aside0.mk (Kd.R_drew HO_8.out)
    replace BK239 := Aside0.mk (blk_drew BK239.out)
    replace HB := Aside0.mk (below_drew1 HB.out)
    obtain ⟨Ao48, co48, eo48⟩ := Kd.R_slice HO_8.out
    (first | subst eo48 | (injection eo48 with f1_ f2_ f3_; have f4_ := f1_.symm; have f5_ := f3_.symm; clear f1_ f2_ f3_; subst f4_; subst f5_))
    have p245 : 0 ≤ (0 : Int) := (by omega)
    have q245 : 0 < (t240.length : Int) := of_decide_eq_true (by first | (with_reducible assumption) | assumption)
    obtain ⟨ad245, e245, hx245_0⟩ := Kd.at_int (Kd.R_reads' HO_8.out).2.2 0 p245 q245
    cases e245
    have qi245 : (0 < t240.length) = True := eq_true (by omega)
    (try rw [show ((0 : Int)).toNat = 0 from rfl] at hx245_0)
    (try rw [Addr.add_zero'] at hx245_0)
    replace p245 := eq_true p245
    replace q245 := eq_true q245
    have p247 : 0 ≤ (1 : Int) := (by omega)
    have q247 : 1 < (t240.length : Int) := of_decide_eq_true (by first | (with_reducible assumption) | assumption)
    obtain ⟨ad247, e247, hx247_0⟩ := Kd.at_int (Kd.R_reads' HO_8.out).2.2 1 p247 q247
    obtain rfl : ad245 = ad247 := (by injection e247)
    (try simp only [show (1 : Int).toNat = 1 from rfl, Nat.reduceMul, Nat.reduceEqDiff, Go.Addr.add, ↓reduceIte] at hx247_0)
    have qi247 : (1 < t240.length) = True := eq_true (by omega)
    (try rw [show ((1 : Int)).toNat = 1 from rfl] at hx247_0)
    replace p247 := eq_true p247
    replace q247 := eq_true q247
    refine start_ (n := 23) (S := fun w' => w'.cell? ⟨gb239, 0, none⟩ = some (.int .i64 ((rd_T33 l0 a1).f0)) ∧ w'.cell? ⟨gb239, 1, none⟩ = some (.int .i64 ((rd_T33 l0 a1).f1)) ∧ w'.cell? ad245 = some (.int .i64 (rd t240 0)) ∧ w'.cell? ⟨ad245.block, ad245.off + 1, none⟩ = some (.int .i64 (rd t240 1))) (ds := []) (bb 23 0) (by kernel_rfl) rfl rfl ⟨(blk_cell BK239.out 0).trans rfl, (blk_cell BK239.out 1).trans rfl, hx245_0, hx247_0⟩ (fun hHeld => ?_); refine with_tabW impl_ruleText.tab14 impl_ruleText.bits14 (fun HT_ HW_ => ?_)
    generalize wc.drew = w47 at HO_8 BK239 HB hx245_0 hx247_0 hHeld ⊢
    refine pl_ HT_ 0 (some 71) (bb 23 1) (h := ?_)
    refine pl_ HT_ 1 (some 72) (bb 23 3) (h := ?_)
    refine pl_ HT_ 2 (some 73) (bb 23 7) (h := ?_)
    refine pl_ HT_ 6 (some 77) (bb 23 71) (h := ?_)
    refine pl_ HT_ 9 (some 80) (bb 23 583) (h := ?_)
    refine pl_ HT_ 16 (some 87) (bb 23 66119) (h := ?_)
    refine pl_ HT_ 17 (some 88) (bb 23 197191) (h := ?_)
    refine pl_ HT_ 18 (some 89) (bb 23 459335) (h := ?_)
    refine tk_ HT_ HW_ hHeld 3 (some 74) (bb 23 459343) (h := ?_)
    refine tk_ HT_ HW_ hHeld 7 (some 78) (bb 23 459471) (h := ?_)
    refine pl_ HT_ 8 (some 79) (bb 23 459727) (h := ?_)
    refine tk_ HT_ HW_ hHeld 10 (some 81) (bb 23 460751) (h := ?_)
    refine pl_ HT_ 11 (some 82) (bb 23 462799) (h := ?_)
    refine pl_ HT_ 12 (some 83) (bb 23 466895) (h := ?_)
    refine pl_ HT_ 13 (some 84) (bb 23 475087) (h := ?_)
    refine tk_ HT_ HW_ hHeld 19 (some 90) (bb 23 999375) (h := ?_)
    refine one_ (i := 4) (N := some 75) (bb 23 999391) rfl rfl (one_of HT_.out (by kernel_rfl)) (by decide) (fun K hK => ?_)
    refine goes_ Tryd.func13 (by kernel_rfl) rfl #[.slice (some ad238) l0.length c0, .int .i64 (rd t240 0), .int .i64 1] (by rfl) rfl rfl (by (try simp only [List.map_toArray, List.map_cons, List.map_nil]); first | done | rfl | (simp only [List.length_drop, List.length_take]; rfl)) ?_
    with_reducible refine (ih kj20 (by have := HJ20.out; omega) _ _ l0 (rd t240 0) 1 t246 _ ?side1 ?side2 A29.out (by exact LaidW.step HLw (hb_ HB))).mono ?_
    (case side1 => exact Kd.C_w HR0 HB)
    (case side2 => exact HC0.out)
    rintro e w49 ⟨rfl, hb⟩
    have HS2_ := (hb.cell (World.block_lt_of_cell? _ _ (hHeld.2.2.1))).trans (hHeld.2.2.1)
    have HS3_ := (hb.cell (World.block_lt_of_cell? _ _ (hHeld.2.2.2))).trans (hHeld.2.2.2)
    refine ⟨_, rfl, ?_⟩
    replace HO_8 := Aside0.mk (Kd.R_below (Kd.R_p HO_8) hb)
    replace BK239 := Aside0.mk (blk_below (kp_ BK239) hb)
    replace HB := Aside0.mk (below_step (hb_ HB) hb)
    refine hK.out _ _ ⟨(blk_cell BK239.out 0).trans rfl, (blk_cell BK239.out 1).trans rfl, HS2_, HS3_⟩ (fun hHeld => ?_)
    clear hK K
    refine nm_ (some 75) (h := ?_)
    refine pl_ HT_ 5 (some 76) (bb 23 999423) (h := ?_)
    refine pl_ HT_ 14 (some 85) (bb 23 1015807) (h := ?_)
    refine pl_ HT_ 15 (some 86) (bb 23 1048575) (h := ?_)
    refine one_ (i := 20) (N := some 91) (bb 23 2097151) rfl rfl (one_of HT_.out (by kernel_rfl)) (by decide) (fun K hK => ?_)
    refine goes_ Tryd.func13 (by kernel_rfl) rfl #[.slice (some ad238) l0.length c0, .int .i64 (rd t240 1), .int .i64 2] (by rfl) rfl rfl (by (try simp only [List.map_toArray, List.map_cons, List.map_nil]); first | done | rfl | (simp only [List.length_drop, List.length_take]; rfl)) ?_
    with_reducible refine (ih kj20 (by have := HJ20.out; omega) _ _ l0 (rd t240 1) 2 t248 _ ?side1 ?side2 A38.out (by exact LaidW.step HLw (hb_ HB))).mono ?_
    (case side1 => exact Kd.C_w HR0 HB)
    (case side2 => exact HC0.out)
    rintro e w50 ⟨rfl, hb⟩
    have HS2_ := (hb.cell (World.block_lt_of_cell? _ _ (hHeld.2.2.1))).trans (hHeld.2.2.1)
    have HS3_ := (hb.cell (World.block_lt_of_cell? _ _ (hHeld.2.2.2))).trans (hHeld.2.2.2)
    refine ⟨_, rfl, ?_⟩
    replace HO_8 := Aside0.mk (Kd.R_below (Kd.R_p HO_8) hb)
    replace BK239 := Aside0.mk (blk_below (kp_ BK239) hb)
    replace HB := Aside0.mk (below_step (hb_ HB) hb)
    refine hK.out _ _ ⟨(blk_cell BK239.out 0).trans rfl, (blk_cell BK239.out 1).trans rfl, HS2_, HS3_⟩ (fun hHeld => ?_)
    clear hK K
    refine nm_ (some 91) (h := ?_)
    refine pl_ HT_ 21 (some 92) (bb 23 4194303) (h := ?_)
    refine pl_ HT_ 22 (some 9) (bb 23 8388607) (h := ?_)
    refine done_ (done_of HT_.out (by kernel_rfl)) ?_
    try go_wp2
    go_ret
    exact ⟨by first | rfl | (simp [errW_none, errW_some] <;> rfl) | (simp only [← hji31]; first | rfl | (simp [errW_none, errW_some] <;> rfl)) | (simp [*, errW_none, errW_some] <;> rfl), hb_ HB⟩
    )
    exact p4_
   ·rw [if_neg c32] at H
    exact absurd H (by simp)
   )
   exact p2_
  replace c27 := Bool.eq_false_iff.mpr c27
  subst c27
  rw [if_neg (show ¬ (false = true) by decide)] at H
  have HC51 := Aside0.mk H
  clear H
  go_upto_if 93 with (fail)
  go_cut [93] (fun v93 wc => ∃ (kq : Nat) (x93_50 : Bool), v93 = .bool x93_50 ∧ Aside0 (impl_ruleText.j1 kq l0 a2 t240 x93_50 ((rd_T33 l0 a1).f0) ((rd_T33 l0 a1).f1) = some r) ∧ Aside0 (kq ≤ kj20) ∧ Aside0 (Kd.R (Kd.int .i64) 3 wc w.heap.size (fun _ => True) v241 t240) ∧ Aside0 (wc.heap[gb239]? = some (.cells #[.int .i64 ((rd_T33 l0 a1).f0), .int .i64 ((rd_T33 l0 a1).f1)] 33 (0, 0))) ∧ Aside0 (Below w.heap.size w wc))
  case first =>
   have H := HC51.out
   clear HC51
   by_cases c52 : ((rd_T33 l0 a1).f0) = 4
   ·rw [if_pos c52] at H
    have c52b0 : (((rd_T33 l0 a1).f0) == 4) = true := beq_iff_eq.mpr c52
    have c52b1 : (((rd_T33 l0 a1).f0) != 4) = false := bne_eq_false_iff_eq.mpr c52
    clear c52
    (first | rw [c52b0] | (simp only [i64_w, i32_w]; rw [c52b0]) | skip)
    have H' := Aside0.mk H
    clear H
    go_wp2
    go_meet
    case rel => exact ⟨_, ((((rd_T33 l0 a1).f0) == 4)), (by first | rfl | (simp; done) | (simp [*]; done)), H', ⟨by have := HJ20.out; first | omega | exact Nat.le_refl _⟩, ⟨Kd.R_p HO_8⟩, ⟨kp_ BK239⟩, ⟨hb_ HB⟩⟩
   rw [if_neg c52] at H
   have c52b0 : (((rd_T33 l0 a1).f0) == 4) = false := beq_eq_false_iff_ne.mpr c52
   have c52b1 : (((rd_T33 l0 a1).f0) != 4) = true := bne_iff_ne.mpr c52
   (first | rw [c52b0] | (simp only [i64_w, i32_w]; rw [c52b0]) | skip)
   have H' := Aside0.mk H
   clear H
   go_wp2
   go_meet
   case rel => exact ⟨_, ((((rd_T33 l0 a1).f0) == 5)), (by first | rfl | (simp; done) | (simp [*]; done)), H', ⟨by have := HJ20.out; first | omega | exact Nat.le_refl _⟩, ⟨Kd.R_p HO_8⟩, ⟨kp_ BK239⟩, ⟨hb_ HB⟩⟩
  clear HC51
  obtain ⟨kq, x93_50, rfl, HA, HJ50, HO_8, BK239, HB⟩ := hcut
  cases kq with
  | zero => exact absurd HA.out (by simp [impl_ruleText.j1])
  | succ kj50 => ?_
  have H := HA.out
  clear HA
  simp only [impl_ruleText.j1] at H
  by_cases c53 : x93_50 = true
  ·subst c53
   rw [if_pos rfl] at H
   by_cases c54 : 0 < (t240.length : Int)
   case neg => rw [if_neg c54] at H; exact absurd H (by simp)
   rw [if_pos c54] at H
   have c54b0 := decide_eq_true c54
   have c54b1 : decide (0 < t240.length) = true := decide_eq_true (by omega)
   clear c54
   replace H := Option.bind_eq_some_iff.mp H
   obtain ⟨t250, A550, H⟩ := H
   try dsimp only at H
   have A55 := Aside0.mk A550
   clear A550
   by_cases c56 : t250.size + 1 ≤ 9223372036854775807
   case neg => rw [if_neg c56] at H; exact absurd H (by simp)
   refine ?z5_
   let rec p5_ : type_of% ?z5_ := by(
   rw [if_pos c56] at H
   have c56b0 := eq_true c56
   have c56b1 := decide_eq_true c56
   try have c56b2 : (9223372036854775807 < t250.size + 1) = False := eq_false (Nat.not_lt.2 c56)
   obtain ⟨ji57, hji57⟩ : ∃ j_ : Int, (wrap64 (((rd_T33 l0 a1).f0) - 4)) = j_ := ⟨_, rfl⟩
   replace H : (if 0 ≤ (ji57) then (if (ji57) ≤ (wrap64 ((ji57) + 1)) then (if (wrap64 ((ji57) + 1)) ≤ 2 then (if (t250 ++ (⟨#[32]⟩ : ByteArray)).size + ((⟨#[42, 47]⟩ : ByteArray).extract ((ji57) : Int).toNat ((wrap64 ((ji57) + 1)) : Int).toNat).size ≤ 9223372036854775807 then (if ((t250 ++ (⟨#[32]⟩ : ByteArray)) ++ ((⟨#[42, 47]⟩ : ByteArray).extract ((ji57) : Int).toNat ((wrap64 ((ji57) + 1)) : Int).toNat)).size + 1 ≤ 9223372036854775807 then (if 1 < (t240.length : Int) then ((impl_ruleText.f kj50 l0 (rd t240 1) 3).bind fun t252 => (if (((t250 ++ (⟨#[32]⟩ : ByteArray)) ++ ((⟨#[42, 47]⟩ : ByteArray).extract ((ji57) : Int).toNat ((wrap64 ((ji57) + 1)) : Int).toNat)) ++ (⟨#[32]⟩ : ByteArray)).size + t252.size ≤ 9223372036854775807 then (if 2 < a2 then (if 2 + ((((t250 ++ (⟨#[32]⟩ : ByteArray)) ++ ((⟨#[42, 47]⟩ : ByteArray).extract ((ji57) : Int).toNat ((wrap64 ((ji57) + 1)) : Int).toNat)) ++ (⟨#[32]⟩ : ByteArray)) ++ t252).size ≤ 9223372036854775807 then (if ((⟨#[40, 32]⟩ : ByteArray) ++ ((((t250 ++ (⟨#[32]⟩ : ByteArray)) ++ ((⟨#[42, 47]⟩ : ByteArray).extract ((ji57) : Int).toNat ((wrap64 ((ji57) + 1)) : Int).toNat)) ++ (⟨#[32]⟩ : ByteArray)) ++ t252)).size + 2 ≤ 9223372036854775807 then (some (((⟨#[40, 32]⟩ : ByteArray) ++ ((((t250 ++ (⟨#[32]⟩ : ByteArray)) ++ ((⟨#[42, 47]⟩ : ByteArray).extract ((ji57) : Int).toNat ((wrap64 ((ji57) + 1)) : Int).toNat)) ++ (⟨#[32]⟩ : ByteArray)) ++ t252)) ++ (⟨#[32, 41]⟩ : ByteArray))) else (none)) else (none)) else (some ((((t250 ++ (⟨#[32]⟩ : ByteArray)) ++ ((⟨#[42, 47]⟩ : ByteArray).extract ((ji57) : Int).toNat ((wrap64 ((ji57) + 1)) : Int).toNat)) ++ (⟨#[32]⟩ : ByteArray)) ++ t252))) else (none))) else (none)) else (none)) else (none)) else (none)) else (none)) else (none)) = some r := by first | (rw [hji57] at H; exact H) | (simp only [hji57] at H ⊢; exact H)
   (try rw [hji57] at A55)
   have hji57w : (IntKind.i64.wrap (((rd_T33 l0 a1).f0) - 4)) = ji57 := (i64_w _).trans hji57
   by_cases c58 : 0 ≤ (ji57)
   ·rw [if_pos c58] at H
    have c58b0 := eq_true c58
    have c58b1 := decide_eq_true c58
    clear c58
    by_cases c59 : (ji57) ≤ (wrap64 ((ji57) + 1))
    case neg => rw [if_neg c59] at H; exact absurd H (by simp)
    rw [if_pos c59] at H
    have c59b0 := eq_true c59
    have c59b1 := decide_eq_true c59
    by_cases c60 : (wrap64 ((ji57) + 1)) ≤ 2
    case neg => rw [if_neg c60] at H; exact absurd H (by simp)
    rw [if_pos c60] at H
    have c60b0 := eq_true c60
    have c60b1 := decide_eq_true c60
    by_cases c61 : (t250 ++ (⟨#[32]⟩ : ByteArray)).size + ((⟨#[42, 47]⟩ : ByteArray).extract ((ji57) : Int).toNat ((wrap64 ((ji57) + 1)) : Int).toNat).size ≤ 9223372036854775807
    case neg => rw [if_neg c61] at H; exact absurd H (by simp)
    rw [if_pos c61] at H
    have c61b0 := eq_true c61
    have c61b1 := decide_eq_true c61
    try have c61b2 : (9223372036854775807 < (t250 ++ (⟨#[32]⟩ : ByteArray)).size + ((⟨#[42, 47]⟩ : ByteArray).extract ((ji57) : Int).toNat ((wrap64 ((ji57) + 1)) : Int).toNat).size) = False := eq_false (Nat.not_lt.2 c61)
    have c61b3 : (9223372036854775807 < t250.size + 1 + (((wrap64 ((ji57) + 1)) : Int).toNat - ((ji57) : Int).toNat)) = False := eq_false (Nat.not_lt.2 (by have h_ := c61; have h2_ : ((wrap64 ((ji57) + 1)) : Int) ≤ 2 := of_eq_true (by assumption); simp only [ByteArray.size_append, ByteArray.size_extract, sz_1, sz_2, sz_3, sz_6] at h_; omega))
    by_cases c62 : ((t250 ++ (⟨#[32]⟩ : ByteArray)) ++ ((⟨#[42, 47]⟩ : ByteArray).extract ((ji57) : Int).toNat ((wrap64 ((ji57) + 1)) : Int).toNat)).size + 1 ≤ 9223372036854775807
    case neg => rw [if_neg c62] at H; exact absurd H (by simp)
    rw [if_pos c62] at H
    have c62b0 := eq_true c62
    have c62b1 := decide_eq_true c62
    try have c62b2 : (9223372036854775807 < ((t250 ++ (⟨#[32]⟩ : ByteArray)) ++ ((⟨#[42, 47]⟩ : ByteArray).extract ((ji57) : Int).toNat ((wrap64 ((ji57) + 1)) : Int).toNat)).size + 1) = False := eq_false (Nat.not_lt.2 c62)
    have c62b3 : (9223372036854775807 < t250.size + 1 + ((((wrap64 ((ji57) + 1)) : Int).toNat - ((ji57) : Int).toNat)) + 1) = False := eq_false (Nat.not_lt.2 (by have h_ := c62; have h2_ : ((wrap64 ((ji57) + 1)) : Int) ≤ 2 := of_eq_true (by assumption); simp only [ByteArray.size_append, ByteArray.size_extract, sz_1, sz_2, sz_3, sz_6] at h_; omega))
    by_cases c63 : 1 < (t240.length : Int)
    case neg => rw [if_neg c63] at H; exact absurd H (by simp)
    rw [if_pos c63] at H
    have c63b0 := decide_eq_true c63
    have c63b1 : decide (1 < t240.length) = true := decide_eq_true (by omega)
    clear c63
    replace H := Option.bind_eq_some_iff.mp H
    obtain ⟨t252, A640, H⟩ := H
    try dsimp only at H
    have A64 := Aside0.mk A640
    clear A640
    by_cases c65 : (((t250 ++ (⟨#[32]⟩ : ByteArray)) ++ ((⟨#[42, 47]⟩ : ByteArray).extract ((ji57) : Int).toNat ((wrap64 ((ji57) + 1)) : Int).toNat)) ++ (⟨#[32]⟩ : ByteArray)).size + t252.size ≤ 9223372036854775807
    case neg => rw [if_neg c65] at H; exact absurd H (by simp)
    rw [if_pos c65] at H
    have c65b0 := eq_true c65
    have c65b1 := decide_eq_true c65
    try have c65b2 : (9223372036854775807 < (((t250 ++ (⟨#[32]⟩ : ByteArray)) ++ ((⟨#[42, 47]⟩ : ByteArray).extract ((ji57) : Int).toNat ((wrap64 ((ji57) + 1)) : Int).toNat)) ++ (⟨#[32]⟩ : ByteArray)).size + t252.size) = False := eq_false (Nat.not_lt.2 c65)
    have c65b3 : (9223372036854775807 < t250.size + 1 + ((((wrap64 ((ji57) + 1)) : Int).toNat - ((ji57) : Int).toNat)) + 1 + t252.size) = False := eq_false (Nat.not_lt.2 (by have h_ := c65; have h2_ : ((wrap64 ((ji57) + 1)) : Int) ≤ 2 := of_eq_true (by assumption); simp only [ByteArray.size_append, ByteArray.size_extract, sz_1, sz_2, sz_3, sz_6] at h_; omega))
    by_cases c66 : 2 < a2
    ·rw [if_pos c66] at H
     have c66b0 := decide_eq_true c66
     clear c66
     by_cases c67 : 2 + ((((t250 ++ (⟨#[32]⟩ : ByteArray)) ++ ((⟨#[42, 47]⟩ : ByteArray).extract ((ji57) : Int).toNat ((wrap64 ((ji57) + 1)) : Int).toNat)) ++ (⟨#[32]⟩ : ByteArray)) ++ t252).size ≤ 9223372036854775807
     case neg => rw [if_neg c67] at H; exact absurd H (by simp)
     rw [if_pos c67] at H
     have c67b0 := eq_true c67
     have c67b1 := decide_eq_true c67
     try have c67b2 : (9223372036854775807 < 2 + ((((t250 ++ (⟨#[32]⟩ : ByteArray)) ++ ((⟨#[42, 47]⟩ : ByteArray).extract ((ji57) : Int).toNat ((wrap64 ((ji57) + 1)) : Int).toNat)) ++ (⟨#[32]⟩ : ByteArray)) ++ t252).size) = False := eq_false (Nat.not_lt.2 c67)
     have c67b3 : (9223372036854775807 < 2 + (t250.size + 1 + ((((wrap64 ((ji57) + 1)) : Int).toNat - ((ji57) : Int).toNat)) + 1 + t252.size)) = False := eq_false (Nat.not_lt.2 (by have h_ := c67; have h2_ : ((wrap64 ((ji57) + 1)) : Int) ≤ 2 := of_eq_true (by assumption); simp only [ByteArray.size_append, ByteArray.size_extract, sz_1, sz_2, sz_3, sz_6] at h_; omega))
     by_cases c68 : ((⟨#[40, 32]⟩ : ByteArray) ++ ((((t250 ++ (⟨#[32]⟩ : ByteArray)) ++ ((⟨#[42, 47]⟩ : ByteArray).extract ((ji57) : Int).toNat ((wrap64 ((ji57) + 1)) : Int).toNat)) ++ (⟨#[32]⟩ : ByteArray)) ++ t252)).size + 2 ≤ 9223372036854775807
     case neg => rw [if_neg c68] at H; exact absurd H (by simp)
     refine ?z6_
     let rec p6_ : type_of% ?z6_ := by(
     rw [if_pos c68] at H
     have c68b0 := eq_true c68
     have c68b1 := decide_eq_true c68
     try have c68b2 : (9223372036854775807 < ((⟨#[40, 32]⟩ : ByteArray) ++ ((((t250 ++ (⟨#[32]⟩ : ByteArray)) ++ ((⟨#[42, 47]⟩ : ByteArray).extract ((ji57) : Int).toNat ((wrap64 ((ji57) + 1)) : Int).toNat)) ++ (⟨#[32]⟩ : ByteArray)) ++ t252)).size + 2) = False := eq_false (Nat.not_lt.2 c68)
     have c68b3 : (9223372036854775807 < 2 + (t250.size + 1 + ((((wrap64 ((ji57) + 1)) : Int).toNat - ((ji57) : Int).toNat)) + 1 + t252.size) + 2) = False := eq_false (Nat.not_lt.2 (by have h_ := c68; have h2_ : ((wrap64 ((ji57) + 1)) : Int) ≤ 2 := of_eq_true (by assumption); simp only [ByteArray.size_append, ByteArray.size_extract, sz_1, sz_2, sz_3, sz_6] at h_; omega))
     obtain rfl := Option.some.inj H
     try go_wp2
     replace HO_8 := Aside0.mk (Kd.R_drew HO_8.out)
     replace BK239 := Aside0.mk (blk_drew BK239.out)
     replace HB := Aside0.mk (below_drew1 HB.out)
     obtain ⟨Ao70, co70, eo70⟩ := Kd.R_slice HO_8.out
     (first | subst eo70 | (injection eo70 with f1_ f2_ f3_; have f4_ := f1_.symm; have f5_ := f3_.symm; clear f1_ f2_ f3_; subst f4_; subst f5_))
     have p249 : 0 ≤ (0 : Int) := (by omega)
     have q249 : 0 < (t240.length : Int) := of_decide_eq_true (by first | (with_reducible assumption) | assumption)
     obtain ⟨ad249, e249, hx249_0⟩ := Kd.at_int (Kd.R_reads' HO_8.out).2.2 0 p249 q249
     cases e249
     have qi249 : (0 < t240.length) = True := eq_true (by omega)
     (try rw [show ((0 : Int)).toNat = 0 from rfl] at hx249_0)
     (try rw [Addr.add_zero'] at hx249_0)
     replace p249 := eq_true p249
     replace q249 := eq_true q249
     have p251 : 0 ≤ (1 : Int) := (by omega)
     have q251 : 1 < (t240.length : Int) := of_decide_eq_true (by first | (with_reducible assumption) | assumption)
     obtain ⟨ad251, e251, hx251_0⟩ := Kd.at_int (Kd.R_reads' HO_8.out).2.2 1 p251 q251
     obtain rfl : ad249 = ad251 := (by injection e251)
     (try simp only [show (1 : Int).toNat = 1 from rfl, Nat.reduceMul, Nat.reduceEqDiff, Go.Addr.add, ↓reduceIte] at hx251_0)
     have qi251 : (1 < t240.length) = True := eq_true (by omega)
     (try rw [show ((1 : Int)).toNat = 1 from rfl] at hx251_0)
     replace p251 := eq_true p251
     replace q251 := eq_true q251
     refine start_ (n := 23) (S := fun w' => w'.cell? ⟨gb239, 0, none⟩ = some (.int .i64 ((rd_T33 l0 a1).f0)) ∧ w'.cell? ⟨gb239, 1, none⟩ = some (.int .i64 ((rd_T33 l0 a1).f1)) ∧ w'.cell? ad249 = some (.int .i64 (rd t240 0)) ∧ w'.cell? ⟨ad249.block, ad249.off + 1, none⟩ = some (.int .i64 (rd t240 1))) (ds := []) (bb 23 0) (by kernel_rfl) rfl rfl ⟨(blk_cell BK239.out 0).trans rfl, (blk_cell BK239.out 1).trans rfl, hx249_0, hx251_0⟩ (fun hHeld => ?_); refine with_tabW impl_ruleText.tab18 impl_ruleText.bits18 (fun HT_ HW_ => ?_)
     generalize wc.drew = w69 at HO_8 BK239 HB hx249_0 hx251_0 hHeld ⊢
     refine pl_ HT_ 0 (some 96) (bb 23 1) (h := ?_)
     refine pl_ HT_ 1 (some 97) (bb 23 3) (h := ?_)
     refine pl_ HT_ 2 (some 98) (bb 23 7) (h := ?_)
     refine pl_ HT_ 6 (some 102) (bb 23 71) (h := ?_)
     refine pl_ HT_ 9 (some 105) (bb 23 583) (h := ?_)
     refine pl_ HT_ 16 (some 112) (bb 23 66119) (h := ?_)
     refine pl_ HT_ 17 (some 113) (bb 23 197191) (h := ?_)
     refine pl_ HT_ 18 (some 114) (bb 23 459335) (h := ?_)
     refine tk_ HT_ HW_ hHeld 3 (some 99) (bb 23 459343) (h := ?_)
     refine tk_ HT_ HW_ hHeld 7 (some 103) (bb 23 459471) (h := ?_)
     refine pl_ HT_ 8 (some 104) (bb 23 459727) (h := ?_)
     refine tk_ HT_ HW_ hHeld 10 (some 106) (bb 23 460751) (h := ?_)
     refine pl_ HT_ 11 (some 107) (bb 23 462799) (h := ?_)
     refine pl_ HT_ 12 (some 108) (bb 23 466895) (h := ?_)
     refine pl_ HT_ 13 (some 109) (bb 23 475087) (h := ?_)
     refine tk_ HT_ HW_ hHeld 19 (some 115) (bb 23 999375) (h := ?_)
     refine one_ (i := 4) (N := some 100) (bb 23 999391) rfl rfl (one_of HT_.out (by kernel_rfl)) (by decide) (fun K hK => ?_)
     refine goes_ Tryd.func13 (by kernel_rfl) rfl #[.slice (some ad238) l0.length c0, .int .i64 (rd t240 0), .int .i64 2] (by rfl) rfl rfl (by (try simp only [List.map_toArray, List.map_cons, List.map_nil]); first | done | rfl | (simp only [List.length_drop, List.length_take]; rfl)) ?_
     with_reducible refine (ih kj50 (by have := HJ20.out; have := HJ50.out; omega) _ _ l0 (rd t240 0) 2 t250 _ ?side1 ?side2 A55.out (by exact LaidW.step HLw (hb_ HB))).mono ?_
     (case side1 => exact Kd.C_w HR0 HB)
     (case side2 => exact HC0.out)
     rintro e w71 ⟨rfl, hb⟩
     have HS2_ := (hb.cell (World.block_lt_of_cell? _ _ (hHeld.2.2.1))).trans (hHeld.2.2.1)
     have HS3_ := (hb.cell (World.block_lt_of_cell? _ _ (hHeld.2.2.2))).trans (hHeld.2.2.2)
     refine ⟨_, rfl, ?_⟩
     replace HO_8 := Aside0.mk (Kd.R_below (Kd.R_p HO_8) hb)
     replace BK239 := Aside0.mk (blk_below (kp_ BK239) hb)
     replace HB := Aside0.mk (below_step (hb_ HB) hb)
     refine hK.out _ _ ⟨(blk_cell BK239.out 0).trans rfl, (blk_cell BK239.out 1).trans rfl, HS2_, HS3_⟩ (fun hHeld => ?_)
     clear hK K
     refine nm_ (some 100) (h := ?_)
     refine pl_ HT_ 5 (some 101) (bb 23 999423) (h := ?_)
     refine pl_ HT_ 14 (some 110) (bb 23 1015807) (h := ?_)
     refine pl_ HT_ 15 (some 111) (bb 23 1048575) (h := ?_)
     refine one_ (i := 20) (N := some 116) (bb 23 2097151) rfl rfl (one_of HT_.out (by kernel_rfl)) (by decide) (fun K hK => ?_)
     refine goes_ Tryd.func13 (by kernel_rfl) rfl #[.slice (some ad238) l0.length c0, .int .i64 (rd t240 1), .int .i64 3] (by rfl) rfl rfl (by (try simp only [List.map_toArray, List.map_cons, List.map_nil]); first | done | rfl | (simp only [List.length_drop, List.length_take]; rfl)) ?_
     with_reducible refine (ih kj50 (by have := HJ20.out; have := HJ50.out; omega) _ _ l0 (rd t240 1) 3 t252 _ ?side1 ?side2 A64.out (by exact LaidW.step HLw (hb_ HB))).mono ?_
     (case side1 => exact Kd.C_w HR0 HB)
     (case side2 => exact HC0.out)
     rintro e w72 ⟨rfl, hb⟩
     have HS2_ := (hb.cell (World.block_lt_of_cell? _ _ (hHeld.2.2.1))).trans (hHeld.2.2.1)
     have HS3_ := (hb.cell (World.block_lt_of_cell? _ _ (hHeld.2.2.2))).trans (hHeld.2.2.2)
     refine ⟨_, rfl, ?_⟩
     replace HO_8 := Aside0.mk (Kd.R_below (Kd.R_p HO_8) hb)
     replace BK239 := Aside0.mk (blk_below (kp_ BK239) hb)
     replace HB := Aside0.mk (below_step (hb_ HB) hb)
     refine hK.out _ _ ⟨(blk_cell BK239.out 0).trans rfl, (blk_cell BK239.out 1).trans rfl, HS2_, HS3_⟩ (fun hHeld => ?_)
     clear hK K
     refine nm_ (some 116) (h := ?_)
     refine pl_ HT_ 21 (some 117) (bb 23 4194303) (h := ?_)
     refine pl_ HT_ 22 (some 9) (bb 23 8388607) (h := ?_)
     refine done_ (done_of HT_.out (by kernel_rfl)) ?_
     try go_wp2
     go_ret
     exact ⟨by first | rfl | (simp [errW_none, errW_some] <;> rfl) | (simp only [← hji57]; first | rfl | (simp [errW_none, errW_some] <;> rfl)) | (simp [*, errW_none, errW_some] <;> rfl), hb_ HB⟩
     )
     exact p6_
    refine ?z7_
    let rec p7_ : type_of% ?z7_ := by(
    rw [if_neg c66] at H
    have c66b0 := decide_eq_false c66
    clear c66
    obtain rfl := Option.some.inj H
    try go_wp2
    replace HO_8 := Aside0.mk (Kd.R_drew HO_8.out)
    replace BK239 := Aside0.mk (blk_drew BK239.out)
    replace HB := Aside0.mk (below_drew1 HB.out)
    obtain ⟨Ao74, co74, eo74⟩ := Kd.R_slice HO_8.out
    (first | subst eo74 | (injection eo74 with f1_ f2_ f3_; have f4_ := f1_.symm; have f5_ := f3_.symm; clear f1_ f2_ f3_; subst f4_; subst f5_))
    have p249 : 0 ≤ (0 : Int) := (by omega)
    have q249 : 0 < (t240.length : Int) := of_decide_eq_true (by first | (with_reducible assumption) | assumption)
    obtain ⟨ad249, e249, hx249_0⟩ := Kd.at_int (Kd.R_reads' HO_8.out).2.2 0 p249 q249
    cases e249
    have qi249 : (0 < t240.length) = True := eq_true (by omega)
    (try rw [show ((0 : Int)).toNat = 0 from rfl] at hx249_0)
    (try rw [Addr.add_zero'] at hx249_0)
    replace p249 := eq_true p249
    replace q249 := eq_true q249
    have p251 : 0 ≤ (1 : Int) := (by omega)
    have q251 : 1 < (t240.length : Int) := of_decide_eq_true (by first | (with_reducible assumption) | assumption)
    obtain ⟨ad251, e251, hx251_0⟩ := Kd.at_int (Kd.R_reads' HO_8.out).2.2 1 p251 q251
    obtain rfl : ad249 = ad251 := (by injection e251)
    (try simp only [show (1 : Int).toNat = 1 from rfl, Nat.reduceMul, Nat.reduceEqDiff, Go.Addr.add, ↓reduceIte] at hx251_0)
    have qi251 : (1 < t240.length) = True := eq_true (by omega)
    (try rw [show ((1 : Int)).toNat = 1 from rfl] at hx251_0)
    replace p251 := eq_true p251
    replace q251 := eq_true q251
    refine start_ (n := 23) (S := fun w' => w'.cell? ⟨gb239, 0, none⟩ = some (.int .i64 ((rd_T33 l0 a1).f0)) ∧ w'.cell? ⟨gb239, 1, none⟩ = some (.int .i64 ((rd_T33 l0 a1).f1)) ∧ w'.cell? ad249 = some (.int .i64 (rd t240 0)) ∧ w'.cell? ⟨ad249.block, ad249.off + 1, none⟩ = some (.int .i64 (rd t240 1))) (ds := []) (bb 23 0) (by kernel_rfl) rfl rfl ⟨(blk_cell BK239.out 0).trans rfl, (blk_cell BK239.out 1).trans rfl, hx249_0, hx251_0⟩ (fun hHeld => ?_); refine with_tabW impl_ruleText.tab18 impl_ruleText.bits18 (fun HT_ HW_ => ?_)
    generalize wc.drew = w73 at HO_8 BK239 HB hx249_0 hx251_0 hHeld ⊢
    refine pl_ HT_ 0 (some 96) (bb 23 1) (h := ?_)
    refine pl_ HT_ 1 (some 97) (bb 23 3) (h := ?_)
    refine pl_ HT_ 2 (some 98) (bb 23 7) (h := ?_)
    refine pl_ HT_ 6 (some 102) (bb 23 71) (h := ?_)
    refine pl_ HT_ 9 (some 105) (bb 23 583) (h := ?_)
    refine pl_ HT_ 16 (some 112) (bb 23 66119) (h := ?_)
    refine pl_ HT_ 17 (some 113) (bb 23 197191) (h := ?_)
    refine pl_ HT_ 18 (some 114) (bb 23 459335) (h := ?_)
    refine tk_ HT_ HW_ hHeld 3 (some 99) (bb 23 459343) (h := ?_)
    refine tk_ HT_ HW_ hHeld 7 (some 103) (bb 23 459471) (h := ?_)
    refine pl_ HT_ 8 (some 104) (bb 23 459727) (h := ?_)
    refine tk_ HT_ HW_ hHeld 10 (some 106) (bb 23 460751) (h := ?_)
    refine pl_ HT_ 11 (some 107) (bb 23 462799) (h := ?_)
    refine pl_ HT_ 12 (some 108) (bb 23 466895) (h := ?_)
    refine pl_ HT_ 13 (some 109) (bb 23 475087) (h := ?_)
    refine tk_ HT_ HW_ hHeld 19 (some 115) (bb 23 999375) (h := ?_)
    refine one_ (i := 4) (N := some 100) (bb 23 999391) rfl rfl (one_of HT_.out (by kernel_rfl)) (by decide) (fun K hK => ?_)
    refine goes_ Tryd.func13 (by kernel_rfl) rfl #[.slice (some ad238) l0.length c0, .int .i64 (rd t240 0), .int .i64 2] (by rfl) rfl rfl (by (try simp only [List.map_toArray, List.map_cons, List.map_nil]); first | done | rfl | (simp only [List.length_drop, List.length_take]; rfl)) ?_
    with_reducible refine (ih kj50 (by have := HJ20.out; have := HJ50.out; omega) _ _ l0 (rd t240 0) 2 t250 _ ?side1 ?side2 A55.out (by exact LaidW.step HLw (hb_ HB))).mono ?_
    (case side1 => exact Kd.C_w HR0 HB)
    (case side2 => exact HC0.out)
    rintro e w75 ⟨rfl, hb⟩
    have HS2_ := (hb.cell (World.block_lt_of_cell? _ _ (hHeld.2.2.1))).trans (hHeld.2.2.1)
    have HS3_ := (hb.cell (World.block_lt_of_cell? _ _ (hHeld.2.2.2))).trans (hHeld.2.2.2)
    refine ⟨_, rfl, ?_⟩
    replace HO_8 := Aside0.mk (Kd.R_below (Kd.R_p HO_8) hb)
    replace BK239 := Aside0.mk (blk_below (kp_ BK239) hb)
    replace HB := Aside0.mk (below_step (hb_ HB) hb)
    refine hK.out _ _ ⟨(blk_cell BK239.out 0).trans rfl, (blk_cell BK239.out 1).trans rfl, HS2_, HS3_⟩ (fun hHeld => ?_)
    clear hK K
    refine nm_ (some 100) (h := ?_)
    refine pl_ HT_ 5 (some 101) (bb 23 999423) (h := ?_)
    refine pl_ HT_ 14 (some 110) (bb 23 1015807) (h := ?_)
    refine pl_ HT_ 15 (some 111) (bb 23 1048575) (h := ?_)
    refine one_ (i := 20) (N := some 116) (bb 23 2097151) rfl rfl (one_of HT_.out (by kernel_rfl)) (by decide) (fun K hK => ?_)
    refine goes_ Tryd.func13 (by kernel_rfl) rfl #[.slice (some ad238) l0.length c0, .int .i64 (rd t240 1), .int .i64 3] (by rfl) rfl rfl (by (try simp only [List.map_toArray, List.map_cons, List.map_nil]); first | done | rfl | (simp only [List.length_drop, List.length_take]; rfl)) ?_
    with_reducible refine (ih kj50 (by have := HJ20.out; have := HJ50.out; omega) _ _ l0 (rd t240 1) 3 t252 _ ?side1 ?side2 A64.out (by exact LaidW.step HLw (hb_ HB))).mono ?_
    (case side1 => exact Kd.C_w HR0 HB)
    (case side2 => exact HC0.out)
    rintro e w76 ⟨rfl, hb⟩
    have HS2_ := (hb.cell (World.block_lt_of_cell? _ _ (hHeld.2.2.1))).trans (hHeld.2.2.1)
    have HS3_ := (hb.cell (World.block_lt_of_cell? _ _ (hHeld.2.2.2))).trans (hHeld.2.2.2)
    refine ⟨_, rfl, ?_⟩
    replace HO_8 := Aside0.mk (Kd.R_below (Kd.R_p HO_8) hb)
    replace BK239 := Aside0.mk (blk_below (kp_ BK239) hb)
    replace HB := Aside0.mk (below_step (hb_ HB) hb)
    refine hK.out _ _ ⟨(blk_cell BK239.out 0).trans rfl, (blk_cell BK239.out 1).trans rfl, HS2_, HS3_⟩ (fun hHeld => ?_)
    clear hK K
    refine nm_ (some 116) (h := ?_)
    refine pl_ HT_ 21 (some 117) (bb 23 4194303) (h := ?_)
    refine pl_ HT_ 22 (some 9) (bb 23 8388607) (h := ?_)
    refine done_ (done_of HT_.out (by kernel_rfl)) ?_
    try go_wp2
    go_ret
    exact ⟨by first | rfl | (simp [errW_none, errW_some] <;> rfl) | (simp only [← hji57]; first | rfl | (simp [errW_none, errW_some] <;> rfl)) | (simp [*, errW_none, errW_some] <;> rfl), hb_ HB⟩
    )
    exact p7_
   ·rw [if_neg c58] at H
    exact absurd H (by simp)
   )
   exact p5_
  replace c53 := Bool.eq_false_iff.mpr c53
  subst c53
  rw [if_neg (show ¬ (false = true) by decide)] at H
  by_cases c77 : 0 < (t240.length : Int)
  case neg => rw [if_neg c77] at H; exact absurd H (by simp)
  refine ?z8_
  let rec p8_ : type_of% ?z8_ := by(
  rw [if_pos c77] at H
  have c77b0 := decide_eq_true c77
  have c77b1 : decide (0 < t240.length) = true := decide_eq_true (by omega)
  clear c77
  replace H := Option.bind_eq_some_iff.mp H
  obtain ⟨t254, A780, H⟩ := H
  try dsimp only at H
  have A78 := Aside0.mk A780
  clear A780
  by_cases c79 : 3 + t254.size ≤ 9223372036854775807
  ·rw [if_pos c79] at H
   have c79b0 := eq_true c79
   have c79b1 := decide_eq_true c79
   try have c79b2 : (9223372036854775807 < 3 + t254.size) = False := eq_false (Nat.not_lt.2 c79)
   by_cases c80 : ((⟨#[105, 102, 32]⟩ : ByteArray) ++ t254).size + 1 ≤ 9223372036854775807
   case neg => rw [if_neg c80] at H; exact absurd H (by simp)
   rw [if_pos c80] at H
   have c80b0 := eq_true c80
   have c80b1 := decide_eq_true c80
   try have c80b2 : (9223372036854775807 < ((⟨#[105, 102, 32]⟩ : ByteArray) ++ t254).size + 1) = False := eq_false (Nat.not_lt.2 c80)
   have c80b3 : (9223372036854775807 < 3 + t254.size + 1) = False := eq_false (Nat.not_lt.2 (by have h_ := c80; simp only [ByteArray.size_append] at h_; exact h_))
   obtain ⟨ji81, hji81⟩ : ∃ j_ : Int, (wrap64 (((rd_T33 l0 a1).f0) - 6)) = j_ := ⟨_, rfl⟩
   replace H : (if 0 ≤ (ji81) then (if (ji81) ≤ (wrap64 ((ji81) + 1)) then (if (wrap64 ((ji81) + 1)) ≤ 3 then (if (((⟨#[105, 102, 32]⟩ : ByteArray) ++ t254) ++ (⟨#[32]⟩ : ByteArray)).size + ((⟨#[60, 61, 62]⟩ : ByteArray).extract ((ji81) : Int).toNat ((wrap64 ((ji81) + 1)) : Int).toNat).size ≤ 9223372036854775807 then (if ((((⟨#[105, 102, 32]⟩ : ByteArray) ++ t254) ++ (⟨#[32]⟩ : ByteArray)) ++ ((⟨#[60, 61, 62]⟩ : ByteArray).extract ((ji81) : Int).toNat ((wrap64 ((ji81) + 1)) : Int).toNat)).size + 1 ≤ 9223372036854775807 then (if 1 < (t240.length : Int) then ((impl_ruleText.f kj50 l0 (rd t240 1) 1).bind fun t256 => (if (((((⟨#[105, 102, 32]⟩ : ByteArray) ++ t254) ++ (⟨#[32]⟩ : ByteArray)) ++ ((⟨#[60, 61, 62]⟩ : ByteArray).extract ((ji81) : Int).toNat ((wrap64 ((ji81) + 1)) : Int).toNat)) ++ (⟨#[32]⟩ : ByteArray)).size + t256.size ≤ 9223372036854775807 then (if ((((((⟨#[105, 102, 32]⟩ : ByteArray) ++ t254) ++ (⟨#[32]⟩ : ByteArray)) ++ ((⟨#[60, 61, 62]⟩ : ByteArray).extract ((ji81) : Int).toNat ((wrap64 ((ji81) + 1)) : Int).toNat)) ++ (⟨#[32]⟩ : ByteArray)) ++ t256).size + 6 ≤ 9223372036854775807 then (if 2 < (t240.length : Int) then ((impl_ruleText.f kj50 l0 (rd t240 2) 0).bind fun t258 => (if (((((((⟨#[105, 102, 32]⟩ : ByteArray) ++ t254) ++ (⟨#[32]⟩ : ByteArray)) ++ ((⟨#[60, 61, 62]⟩ : ByteArray).extract ((ji81) : Int).toNat ((wrap64 ((ji81) + 1)) : Int).toNat)) ++ (⟨#[32]⟩ : ByteArray)) ++ t256) ++ (⟨#[32, 116, 104, 101, 110, 32]⟩ : ByteArray)).size + t258.size ≤ 9223372036854775807 then (if ((((((((⟨#[105, 102, 32]⟩ : ByteArray) ++ t254) ++ (⟨#[32]⟩ : ByteArray)) ++ ((⟨#[60, 61, 62]⟩ : ByteArray).extract ((ji81) : Int).toNat ((wrap64 ((ji81) + 1)) : Int).toNat)) ++ (⟨#[32]⟩ : ByteArray)) ++ t256) ++ (⟨#[32, 116, 104, 101, 110, 32]⟩ : ByteArray)) ++ t258).size + 6 ≤ 9223372036854775807 then (if 3 < (t240.length : Int) then ((impl_ruleText.f kj50 l0 (rd t240 3) 0).bind fun t260 => (if (((((((((⟨#[105, 102, 32]⟩ : ByteArray) ++ t254) ++ (⟨#[32]⟩ : ByteArray)) ++ ((⟨#[60, 61, 62]⟩ : ByteArray).extract ((ji81) : Int).toNat ((wrap64 ((ji81) + 1)) : Int).toNat)) ++ (⟨#[32]⟩ : ByteArray)) ++ t256) ++ (⟨#[32, 116, 104, 101, 110, 32]⟩ : ByteArray)) ++ t258) ++ (⟨#[32, 101, 108, 115, 101, 32]⟩ : ByteArray)).size + t260.size ≤ 9223372036854775807 then (if 0 < a2 then (if 2 + ((((((((((⟨#[105, 102, 32]⟩ : ByteArray) ++ t254) ++ (⟨#[32]⟩ : ByteArray)) ++ ((⟨#[60, 61, 62]⟩ : ByteArray).extract ((ji81) : Int).toNat ((wrap64 ((ji81) + 1)) : Int).toNat)) ++ (⟨#[32]⟩ : ByteArray)) ++ t256) ++ (⟨#[32, 116, 104, 101, 110, 32]⟩ : ByteArray)) ++ t258) ++ (⟨#[32, 101, 108, 115, 101, 32]⟩ : ByteArray)) ++ t260).size ≤ 9223372036854775807 then (if ((⟨#[40, 32]⟩ : ByteArray) ++ ((((((((((⟨#[105, 102, 32]⟩ : ByteArray) ++ t254) ++ (⟨#[32]⟩ : ByteArray)) ++ ((⟨#[60, 61, 62]⟩ : ByteArray).extract ((ji81) : Int).toNat ((wrap64 ((ji81) + 1)) : Int).toNat)) ++ (⟨#[32]⟩ : ByteArray)) ++ t256) ++ (⟨#[32, 116, 104, 101, 110, 32]⟩ : ByteArray)) ++ t258) ++ (⟨#[32, 101, 108, 115, 101, 32]⟩ : ByteArray)) ++ t260)).size + 2 ≤ 9223372036854775807 then (some (((⟨#[40, 32]⟩ : ByteArray) ++ ((((((((((⟨#[105, 102, 32]⟩ : ByteArray) ++ t254) ++ (⟨#[32]⟩ : ByteArray)) ++ ((⟨#[60, 61, 62]⟩ : ByteArray).extract ((ji81) : Int).toNat ((wrap64 ((ji81) + 1)) : Int).toNat)) ++ (⟨#[32]⟩ : ByteArray)) ++ t256) ++ (⟨#[32, 116, 104, 101, 110, 32]⟩ : ByteArray)) ++ t258) ++ (⟨#[32, 101, 108, 115, 101, 32]⟩ : ByteArray)) ++ t260)) ++ (⟨#[32, 41]⟩ : ByteArray))) else (none)) else (none)) else (some ((((((((((⟨#[105, 102, 32]⟩ : ByteArray) ++ t254) ++ (⟨#[32]⟩ : ByteArray)) ++ ((⟨#[60, 61, 62]⟩ : ByteArray).extract ((ji81) : Int).toNat ((wrap64 ((ji81) + 1)) : Int).toNat)) ++ (⟨#[32]⟩ : ByteArray)) ++ t256) ++ (⟨#[32, 116, 104, 101, 110, 32]⟩ : ByteArray)) ++ t258) ++ (⟨#[32, 101, 108, 115, 101, 32]⟩ : ByteArray)) ++ t260))) else (none))) else (none)) else (none)) else (none))) else (none)) else (none)) else (none))) else (none)) else (none)) else (none)) else (none)) else (none)) else (none)) = some r := by first | (rw [hji81] at H; exact H) | (simp only [hji81] at H ⊢; exact H)
   (try rw [hji81] at A78)
   have hji81w : (IntKind.i64.wrap (((rd_T33 l0 a1).f0) - 6)) = ji81 := (i64_w _).trans hji81
   by_cases c82 : 0 ≤ (ji81)
   case neg => rw [if_neg c82] at H; exact absurd H (by simp)
   rw [if_pos c82] at H
   have c82b0 := eq_true c82
   have c82b1 := decide_eq_true c82
   clear c82
   by_cases c83 : (ji81) ≤ (wrap64 ((ji81) + 1))
   case neg => rw [if_neg c83] at H; exact absurd H (by simp)
   rw [if_pos c83] at H
   have c83b0 := eq_true c83
   have c83b1 := decide_eq_true c83
   by_cases c84 : (wrap64 ((ji81) + 1)) ≤ 3
   case neg => rw [if_neg c84] at H; exact absurd H (by simp)
   refine ?z9_
   let rec p9_ : type_of% ?z9_ := by(
   rw [if_pos c84] at H
   have c84b0 := eq_true c84
   have c84b1 := decide_eq_true c84
   by_cases c85 : (((⟨#[105, 102, 32]⟩ : ByteArray) ++ t254) ++ (⟨#[32]⟩ : ByteArray)).size + ((⟨#[60, 61, 62]⟩ : ByteArray).extract ((ji81) : Int).toNat ((wrap64 ((ji81) + 1)) : Int).toNat).size ≤ 9223372036854775807
   ·rw [if_pos c85] at H
    have c85b0 := eq_true c85
    have c85b1 := decide_eq_true c85
    try have c85b2 : (9223372036854775807 < (((⟨#[105, 102, 32]⟩ : ByteArray) ++ t254) ++ (⟨#[32]⟩ : ByteArray)).size + ((⟨#[60, 61, 62]⟩ : ByteArray).extract ((ji81) : Int).toNat ((wrap64 ((ji81) + 1)) : Int).toNat).size) = False := eq_false (Nat.not_lt.2 c85)
    have c85b3 : (9223372036854775807 < 3 + t254.size + 1 + (((wrap64 ((ji81) + 1)) : Int).toNat - ((ji81) : Int).toNat)) = False := eq_false (Nat.not_lt.2 (by have h_ := c85; have h2_ : ((wrap64 ((ji81) + 1)) : Int) ≤ 3 := of_eq_true (by assumption); simp only [ByteArray.size_append, ByteArray.size_extract, sz_1, sz_2, sz_3, sz_6] at h_; omega))
    by_cases c86 : ((((⟨#[105, 102, 32]⟩ : ByteArray) ++ t254) ++ (⟨#[32]⟩ : ByteArray)) ++ ((⟨#[60, 61, 62]⟩ : ByteArray).extract ((ji81) : Int).toNat ((wrap64 ((ji81) + 1)) : Int).toNat)).size + 1 ≤ 9223372036854775807
    case neg => rw [if_neg c86] at H; exact absurd H (by simp)
    rw [if_pos c86] at H
    have c86b0 := eq_true c86
    have c86b1 := decide_eq_true c86
    try have c86b2 : (9223372036854775807 < ((((⟨#[105, 102, 32]⟩ : ByteArray) ++ t254) ++ (⟨#[32]⟩ : ByteArray)) ++ ((⟨#[60, 61, 62]⟩ : ByteArray).extract ((ji81) : Int).toNat ((wrap64 ((ji81) + 1)) : Int).toNat)).size + 1) = False := eq_false (Nat.not_lt.2 c86)
    have c86b3 : (9223372036854775807 < 3 + t254.size + 1 + ((((wrap64 ((ji81) + 1)) : Int).toNat - ((ji81) : Int).toNat)) + 1) = False := eq_false (Nat.not_lt.2 (by have h_ := c86; have h2_ : ((wrap64 ((ji81) + 1)) : Int) ≤ 3 := of_eq_true (by assumption); simp only [ByteArray.size_append, ByteArray.size_extract, sz_1, sz_2, sz_3, sz_6] at h_; omega))
    by_cases c87 : 1 < (t240.length : Int)
    case neg => rw [if_neg c87] at H; exact absurd H (by simp)
    rw [if_pos c87] at H
    have c87b0 := decide_eq_true c87
    have c87b1 : decide (1 < t240.length) = true := decide_eq_true (by omega)
    clear c87
    replace H := Option.bind_eq_some_iff.mp H
    obtain ⟨t256, A880, H⟩ := H
    try dsimp only at H
    have A88 := Aside0.mk A880
    clear A880
    by_cases c89 : (((((⟨#[105, 102, 32]⟩ : ByteArray) ++ t254) ++ (⟨#[32]⟩ : ByteArray)) ++ ((⟨#[60, 61, 62]⟩ : ByteArray).extract ((ji81) : Int).toNat ((wrap64 ((ji81) + 1)) : Int).toNat)) ++ (⟨#[32]⟩ : ByteArray)).size + t256.size ≤ 9223372036854775807
    case neg => rw [if_neg c89] at H; exact absurd H (by simp)
    rw [if_pos c89] at H
    have c89b0 := eq_true c89
    have c89b1 := decide_eq_true c89
    try have c89b2 : (9223372036854775807 < (((((⟨#[105, 102, 32]⟩ : ByteArray) ++ t254) ++ (⟨#[32]⟩ : ByteArray)) ++ ((⟨#[60, 61, 62]⟩ : ByteArray).extract ((ji81) : Int).toNat ((wrap64 ((ji81) + 1)) : Int).toNat)) ++ (⟨#[32]⟩ : ByteArray)).size + t256.size) = False := eq_false (Nat.not_lt.2 c89)
    have c89b3 : (9223372036854775807 < 3 + t254.size + 1 + ((((wrap64 ((ji81) + 1)) : Int).toNat - ((ji81) : Int).toNat)) + 1 + t256.size) = False := eq_false (Nat.not_lt.2 (by have h_ := c89; have h2_ : ((wrap64 ((ji81) + 1)) : Int) ≤ 3 := of_eq_true (by assumption); simp only [ByteArray.size_append, ByteArray.size_extract, sz_1, sz_2, sz_3, sz_6] at h_; omega))
    by_cases c90 : ((((((⟨#[105, 102, 32]⟩ : ByteArray) ++ t254) ++ (⟨#[32]⟩ : ByteArray)) ++ ((⟨#[60, 61, 62]⟩ : ByteArray).extract ((ji81) : Int).toNat ((wrap64 ((ji81) + 1)) : Int).toNat)) ++ (⟨#[32]⟩ : ByteArray)) ++ t256).size + 6 ≤ 9223372036854775807
    case neg => rw [if_neg c90] at H; exact absurd H (by simp)
    rw [if_pos c90] at H
    have c90b0 := eq_true c90
    have c90b1 := decide_eq_true c90
    try have c90b2 : (9223372036854775807 < ((((((⟨#[105, 102, 32]⟩ : ByteArray) ++ t254) ++ (⟨#[32]⟩ : ByteArray)) ++ ((⟨#[60, 61, 62]⟩ : ByteArray).extract ((ji81) : Int).toNat ((wrap64 ((ji81) + 1)) : Int).toNat)) ++ (⟨#[32]⟩ : ByteArray)) ++ t256).size + 6) = False := eq_false (Nat.not_lt.2 c90)
    have c90b3 : (9223372036854775807 < 3 + t254.size + 1 + ((((wrap64 ((ji81) + 1)) : Int).toNat - ((ji81) : Int).toNat)) + 1 + t256.size + 6) = False := eq_false (Nat.not_lt.2 (by have h_ := c90; have h2_ : ((wrap64 ((ji81) + 1)) : Int) ≤ 3 := of_eq_true (by assumption); simp only [ByteArray.size_append, ByteArray.size_extract, sz_1, sz_2, sz_3, sz_6] at h_; omega))
    by_cases c91 : 2 < (t240.length : Int)
    case neg => rw [if_neg c91] at H; exact absurd H (by simp)
    rw [if_pos c91] at H
    have c91b0 := decide_eq_true c91
    have c91b1 : decide (2 < t240.length) = true := decide_eq_true (by omega)
    clear c91
    replace H := Option.bind_eq_some_iff.mp H
    obtain ⟨t258, A920, H⟩ := H
    try dsimp only at H
    have A92 := Aside0.mk A920
    clear A920
    by_cases c93 : (((((((⟨#[105, 102, 32]⟩ : ByteArray) ++ t254) ++ (⟨#[32]⟩ : ByteArray)) ++ ((⟨#[60, 61, 62]⟩ : ByteArray).extract ((ji81) : Int).toNat ((wrap64 ((ji81) + 1)) : Int).toNat)) ++ (⟨#[32]⟩ : ByteArray)) ++ t256) ++ (⟨#[32, 116, 104, 101, 110, 32]⟩ : ByteArray)).size + t258.size ≤ 9223372036854775807
    case neg => rw [if_neg c93] at H; exact absurd H (by simp)
    refine ?z10_
    let rec p10_ : type_of% ?z10_ := by(
    rw [if_pos c93] at H
    have c93b0 := eq_true c93
    have c93b1 := decide_eq_true c93
    try have c93b2 : (9223372036854775807 < (((((((⟨#[105, 102, 32]⟩ : ByteArray) ++ t254) ++ (⟨#[32]⟩ : ByteArray)) ++ ((⟨#[60, 61, 62]⟩ : ByteArray).extract ((ji81) : Int).toNat ((wrap64 ((ji81) + 1)) : Int).toNat)) ++ (⟨#[32]⟩ : ByteArray)) ++ t256) ++ (⟨#[32, 116, 104, 101, 110, 32]⟩ : ByteArray)).size + t258.size) = False := eq_false (Nat.not_lt.2 c93)
    have c93b3 : (9223372036854775807 < 3 + t254.size + 1 + ((((wrap64 ((ji81) + 1)) : Int).toNat - ((ji81) : Int).toNat)) + 1 + t256.size + 6 + t258.size) = False := eq_false (Nat.not_lt.2 (by have h_ := c93; have h2_ : ((wrap64 ((ji81) + 1)) : Int) ≤ 3 := of_eq_true (by assumption); simp only [ByteArray.size_append, ByteArray.size_extract, sz_1, sz_2, sz_3, sz_6] at h_; omega))
    by_cases c94 : ((((((((⟨#[105, 102, 32]⟩ : ByteArray) ++ t254) ++ (⟨#[32]⟩ : ByteArray)) ++ ((⟨#[60, 61, 62]⟩ : ByteArray).extract ((ji81) : Int).toNat ((wrap64 ((ji81) + 1)) : Int).toNat)) ++ (⟨#[32]⟩ : ByteArray)) ++ t256) ++ (⟨#[32, 116, 104, 101, 110, 32]⟩ : ByteArray)) ++ t258).size + 6 ≤ 9223372036854775807
    ·rw [if_pos c94] at H
     have c94b0 := eq_true c94
     have c94b1 := decide_eq_true c94
     try have c94b2 : (9223372036854775807 < ((((((((⟨#[105, 102, 32]⟩ : ByteArray) ++ t254) ++ (⟨#[32]⟩ : ByteArray)) ++ ((⟨#[60, 61, 62]⟩ : ByteArray).extract ((ji81) : Int).toNat ((wrap64 ((ji81) + 1)) : Int).toNat)) ++ (⟨#[32]⟩ : ByteArray)) ++ t256) ++ (⟨#[32, 116, 104, 101, 110, 32]⟩ : ByteArray)) ++ t258).size + 6) = False := eq_false (Nat.not_lt.2 c94)
     have c94b3 : (9223372036854775807 < 3 + t254.size + 1 + ((((wrap64 ((ji81) + 1)) : Int).toNat - ((ji81) : Int).toNat)) + 1 + t256.size + 6 + t258.size + 6) = False := eq_false (Nat.not_lt.2 (by have h_ := c94; have h2_ : ((wrap64 ((ji81) + 1)) : Int) ≤ 3 := of_eq_true (by assumption); simp only [ByteArray.size_append, ByteArray.size_extract, sz_1, sz_2, sz_3, sz_6] at h_; omega))
     by_cases c95 : 3 < (t240.length : Int)
     case neg => rw [if_neg c95] at H; exact absurd H (by simp)
     rw [if_pos c95] at H
     have c95b0 := decide_eq_true c95
     have c95b1 : decide (3 < t240.length) = true := decide_eq_true (by omega)
     clear c95
     replace H := Option.bind_eq_some_iff.mp H
     obtain ⟨t260, A960, H⟩ := H
     try dsimp only at H
     have A96 := Aside0.mk A960
     clear A960
     by_cases c97 : (((((((((⟨#[105, 102, 32]⟩ : ByteArray) ++ t254) ++ (⟨#[32]⟩ : ByteArray)) ++ ((⟨#[60, 61, 62]⟩ : ByteArray).extract ((ji81) : Int).toNat ((wrap64 ((ji81) + 1)) : Int).toNat)) ++ (⟨#[32]⟩ : ByteArray)) ++ t256) ++ (⟨#[32, 116, 104, 101, 110, 32]⟩ : ByteArray)) ++ t258) ++ (⟨#[32, 101, 108, 115, 101, 32]⟩ : ByteArray)).size + t260.size ≤ 9223372036854775807
     case neg => rw [if_neg c97] at H; exact absurd H (by simp)
     rw [if_pos c97] at H
     have c97b0 := eq_true c97
     have c97b1 := decide_eq_true c97
     try have c97b2 : (9223372036854775807 < (((((((((⟨#[105, 102, 32]⟩ : ByteArray) ++ t254) ++ (⟨#[32]⟩ : ByteArray)) ++ ((⟨#[60, 61, 62]⟩ : ByteArray).extract ((ji81) : Int).toNat ((wrap64 ((ji81) + 1)) : Int).toNat)) ++ (⟨#[32]⟩ : ByteArray)) ++ t256) ++ (⟨#[32, 116, 104, 101, 110, 32]⟩ : ByteArray)) ++ t258) ++ (⟨#[32, 101, 108, 115, 101, 32]⟩ : ByteArray)).size + t260.size) = False := eq_false (Nat.not_lt.2 c97)
     have c97b3 : (9223372036854775807 < 3 + t254.size + 1 + ((((wrap64 ((ji81) + 1)) : Int).toNat - ((ji81) : Int).toNat)) + 1 + t256.size + 6 + t258.size + 6 + t260.size) = False := eq_false (Nat.not_lt.2 (by have h_ := c97; have h2_ : ((wrap64 ((ji81) + 1)) : Int) ≤ 3 := of_eq_true (by assumption); simp only [ByteArray.size_append, ByteArray.size_extract, sz_1, sz_2, sz_3, sz_6] at h_; omega))
     by_cases c98 : 0 < a2
     ·rw [if_pos c98] at H
      have c98b0 := decide_eq_true c98
      clear c98
      by_cases c99 : 2 + ((((((((((⟨#[105, 102, 32]⟩ : ByteArray) ++ t254) ++ (⟨#[32]⟩ : ByteArray)) ++ ((⟨#[60, 61, 62]⟩ : ByteArray).extract ((ji81) : Int).toNat ((wrap64 ((ji81) + 1)) : Int).toNat)) ++ (⟨#[32]⟩ : ByteArray)) ++ t256) ++ (⟨#[32, 116, 104, 101, 110, 32]⟩ : ByteArray)) ++ t258) ++ (⟨#[32, 101, 108, 115, 101, 32]⟩ : ByteArray)) ++ t260).size ≤ 9223372036854775807
      case neg => rw [if_neg c99] at H; exact absurd H (by simp)
      rw [if_pos c99] at H
      have c99b0 := eq_true c99
      have c99b1 := decide_eq_true c99
      try have c99b2 : (9223372036854775807 < 2 + ((((((((((⟨#[105, 102, 32]⟩ : ByteArray) ++ t254) ++ (⟨#[32]⟩ : ByteArray)) ++ ((⟨#[60, 61, 62]⟩ : ByteArray).extract ((ji81) : Int).toNat ((wrap64 ((ji81) + 1)) : Int).toNat)) ++ (⟨#[32]⟩ : ByteArray)) ++ t256) ++ (⟨#[32, 116, 104, 101, 110, 32]⟩ : ByteArray)) ++ t258) ++ (⟨#[32, 101, 108, 115, 101, 32]⟩ : ByteArray)) ++ t260).size) = False := eq_false (Nat.not_lt.2 c99)
      have c99b3 : (9223372036854775807 < 2 + (3 + t254.size + 1 + ((((wrap64 ((ji81) + 1)) : Int).toNat - ((ji81) : Int).toNat)) + 1 + t256.size + 6 + t258.size + 6 + t260.size)) = False := eq_false (Nat.not_lt.2 (by have h_ := c99; have h2_ : ((wrap64 ((ji81) + 1)) : Int) ≤ 3 := of_eq_true (by assumption); simp only [ByteArray.size_append, ByteArray.size_extract, sz_1, sz_2, sz_3, sz_6] at h_; omega))
      by_cases c100 : ((⟨#[40, 32]⟩ : ByteArray) ++ ((((((((((⟨#[105, 102, 32]⟩ : ByteArray) ++ t254) ++ (⟨#[32]⟩ : ByteArray)) ++ ((⟨#[60, 61, 62]⟩ : ByteArray).extract ((ji81) : Int).toNat ((wrap64 ((ji81) + 1)) : Int).toNat)) ++ (⟨#[32]⟩ : ByteArray)) ++ t256) ++ (⟨#[32, 116, 104, 101, 110, 32]⟩ : ByteArray)) ++ t258) ++ (⟨#[32, 101, 108, 115, 101, 32]⟩ : ByteArray)) ++ t260)).size + 2 ≤ 9223372036854775807
      case neg => rw [if_neg c100] at H; exact absurd H (by simp)
      refine ?z11_
      let rec p11_ : type_of% ?z11_ := by(
      rw [if_pos c100] at H
      have c100b0 := eq_true c100
      have c100b1 := decide_eq_true c100
      try have c100b2 : (9223372036854775807 < ((⟨#[40, 32]⟩ : ByteArray) ++ ((((((((((⟨#[105, 102, 32]⟩ : ByteArray) ++ t254) ++ (⟨#[32]⟩ : ByteArray)) ++ ((⟨#[60, 61, 62]⟩ : ByteArray).extract ((ji81) : Int).toNat ((wrap64 ((ji81) + 1)) : Int).toNat)) ++ (⟨#[32]⟩ : ByteArray)) ++ t256) ++ (⟨#[32, 116, 104, 101, 110, 32]⟩ : ByteArray)) ++ t258) ++ (⟨#[32, 101, 108, 115, 101, 32]⟩ : ByteArray)) ++ t260)).size + 2) = False := eq_false (Nat.not_lt.2 c100)
      have c100b3 : (9223372036854775807 < 2 + (3 + t254.size + 1 + ((((wrap64 ((ji81) + 1)) : Int).toNat - ((ji81) : Int).toNat)) + 1 + t256.size + 6 + t258.size + 6 + t260.size) + 2) = False := eq_false (Nat.not_lt.2 (by have h_ := c100; have h2_ : ((wrap64 ((ji81) + 1)) : Int) ≤ 3 := of_eq_true (by assumption); simp only [ByteArray.size_append, ByteArray.size_extract, sz_1, sz_2, sz_3, sz_6] at h_; omega))
      obtain rfl := Option.some.inj H
      try go_wp2
      replace HO_8 := Aside0.mk (Kd.R_drew HO_8.out)
      replace BK239 := Aside0.mk (blk_drew BK239.out)
      replace HB := Aside0.mk (below_drew1 HB.out)
      obtain ⟨Ao102, co102, eo102⟩ := Kd.R_slice HO_8.out
      (first | subst eo102 | (injection eo102 with f1_ f2_ f3_; have f4_ := f1_.symm; have f5_ := f3_.symm; clear f1_ f2_ f3_; subst f4_; subst f5_))
      have p253 : 0 ≤ (0 : Int) := (by omega)
      have q253 : 0 < (t240.length : Int) := of_decide_eq_true (by first | (with_reducible assumption) | assumption)
      obtain ⟨ad253, e253, hx253_0⟩ := Kd.at_int (Kd.R_reads' HO_8.out).2.2 0 p253 q253
      cases e253
      have qi253 : (0 < t240.length) = True := eq_true (by omega)
      (try rw [show ((0 : Int)).toNat = 0 from rfl] at hx253_0)
      (try rw [Addr.add_zero'] at hx253_0)
      replace p253 := eq_true p253
      replace q253 := eq_true q253
      have p255 : 0 ≤ (1 : Int) := (by omega)
      have q255 : 1 < (t240.length : Int) := of_decide_eq_true (by first | (with_reducible assumption) | assumption)
      obtain ⟨ad255, e255, hx255_0⟩ := Kd.at_int (Kd.R_reads' HO_8.out).2.2 1 p255 q255
      obtain rfl : ad253 = ad255 := (by injection e255)
      (try simp only [show (1 : Int).toNat = 1 from rfl, Nat.reduceMul, Nat.reduceEqDiff, Go.Addr.add, ↓reduceIte] at hx255_0)
      have qi255 : (1 < t240.length) = True := eq_true (by omega)
      (try rw [show ((1 : Int)).toNat = 1 from rfl] at hx255_0)
      replace p255 := eq_true p255
      replace q255 := eq_true q255
      have p257 : 0 ≤ (2 : Int) := (by omega)
      have q257 : 2 < (t240.length : Int) := of_decide_eq_true (by first | (with_reducible assumption) | assumption)
      obtain ⟨ad257, e257, hx257_0⟩ := Kd.at_int (Kd.R_reads' HO_8.out).2.2 2 p257 q257
      obtain rfl : ad253 = ad257 := (by injection e257)
      (try simp only [show (2 : Int).toNat = 2 from rfl, Nat.reduceMul, Nat.reduceEqDiff, Go.Addr.add, ↓reduceIte] at hx257_0)
      have qi257 : (2 < t240.length) = True := eq_true (by omega)
      (try rw [show ((2 : Int)).toNat = 2 from rfl] at hx257_0)
      replace p257 := eq_true p257
      replace q257 := eq_true q257
      have p259 : 0 ≤ (3 : Int) := (by omega)
      have q259 : 3 < (t240.length : Int) := of_decide_eq_true (by first | (with_reducible assumption) | assumption)
      obtain ⟨ad259, e259, hx259_0⟩ := Kd.at_int (Kd.R_reads' HO_8.out).2.2 3 p259 q259
      obtain rfl : ad253 = ad259 := (by injection e259)
      (try simp only [show (3 : Int).toNat = 3 from rfl, Nat.reduceMul, Nat.reduceEqDiff, Go.Addr.add, ↓reduceIte] at hx259_0)
      have qi259 : (3 < t240.length) = True := eq_true (by omega)
      (try rw [show ((3 : Int)).toNat = 3 from rfl] at hx259_0)
      replace p259 := eq_true p259
      replace q259 := eq_true q259
      refine start_ (n := 38) (S := fun w' => w'.cell? ⟨gb239, 0, none⟩ = some (.int .i64 ((rd_T33 l0 a1).f0)) ∧ w'.cell? ⟨gb239, 1, none⟩ = some (.int .i64 ((rd_T33 l0 a1).f1)) ∧ w'.cell? ad253 = some (.int .i64 (rd t240 0)) ∧ w'.cell? ⟨ad253.block, ad253.off + 1, none⟩ = some (.int .i64 (rd t240 1)) ∧ w'.cell? ⟨ad253.block, ad253.off + 2, none⟩ = some (.int .i64 (rd t240 2)) ∧ w'.cell? ⟨ad253.block, ad253.off + 3, none⟩ = some (.int .i64 (rd t240 3))) (ds := []) (bb 38 0) (by kernel_rfl) rfl rfl ⟨(blk_cell BK239.out 0).trans rfl, (blk_cell BK239.out 1).trans rfl, hx253_0, hx255_0, hx257_0, hx259_0⟩ (fun hHeld => ?_); refine with_tabW impl_ruleText.tab6 impl_ruleText.bits6 (fun HT_ HW_ => ?_)
      generalize wc.drew = w101 at HO_8 BK239 HB hx253_0 hx255_0 hx257_0 hx259_0 hHeld ⊢
      refine pl_ HT_ 0 (some 20) (bb 38 1) (h := ?_)
      refine pl_ HT_ 1 (some 21) (bb 38 3) (h := ?_)
      refine pl_ HT_ 2 (some 22) (bb 38 7) (h := ?_)
      refine pl_ HT_ 7 (some 27) (bb 38 135) (h := ?_)
      refine pl_ HT_ 10 (some 30) (bb 38 1159) (h := ?_)
      refine pl_ HT_ 17 (some 37) (bb 38 132231) (h := ?_)
      refine pl_ HT_ 18 (some 38) (bb 38 394375) (h := ?_)
      refine pl_ HT_ 19 (some 39) (bb 38 918663) (h := ?_)
      refine pl_ HT_ 24 (some 44) (bb 38 17695879) (h := ?_)
      refine pl_ HT_ 25 (some 45) (bb 38 51250311) (h := ?_)
      refine pl_ HT_ 26 (some 46) (bb 38 118359175) (h := ?_)
      refine pl_ HT_ 31 (some 51) (bb 38 2265842823) (h := ?_)
      refine pl_ HT_ 32 (some 52) (bb 38 6560810119) (h := ?_)
      refine pl_ HT_ 33 (some 53) (bb 38 15150744711) (h := ?_)
      refine tk_ HT_ HW_ hHeld 3 (some 23) (bb 38 15150744719) (h := ?_)
      refine tk_ HT_ HW_ hHeld 8 (some 28) (bb 38 15150744975) (h := ?_)
      refine pl_ HT_ 9 (some 29) (bb 38 15150745487) (h := ?_)
      refine tk_ HT_ HW_ hHeld 11 (some 31) (bb 38 15150747535) (h := ?_)
      refine pl_ HT_ 12 (some 32) (bb 38 15150751631) (h := ?_)
      refine pl_ HT_ 13 (some 33) (bb 38 15150759823) (h := ?_)
      refine pl_ HT_ 14 (some 34) (bb 38 15150776207) (h := ?_)
      refine tk_ HT_ HW_ hHeld 20 (some 40) (bb 38 15151824783) (h := ?_)
      refine tk_ HT_ HW_ hHeld 27 (some 47) (bb 38 15286042511) (h := ?_)
      refine tk_ HT_ HW_ hHeld 34 (some 54) (bb 38 32465911695) (h := ?_)
      refine one_ (i := 4) (N := some 24) (bb 38 32465911711) rfl rfl (one_of HT_.out (by kernel_rfl)) (by decide) (fun K hK => ?_)
      refine goes_ Tryd.func13 (by kernel_rfl) rfl #[.slice (some ad238) l0.length c0, .int .i64 (rd t240 0), .int .i64 1] (by rfl) rfl rfl (by (try simp only [List.map_toArray, List.map_cons, List.map_nil]); first | done | rfl | (simp only [List.length_drop, List.length_take]; rfl)) ?_
      with_reducible refine (ih kj50 (by have := HJ20.out; have := HJ50.out; omega) _ _ l0 (rd t240 0) 1 t254 _ ?side1 ?side2 A78.out (by exact LaidW.step HLw (hb_ HB))).mono ?_
      (case side1 => exact Kd.C_w HR0 HB)
      (case side2 => exact HC0.out)
      rintro e w103 ⟨rfl, hb⟩
      have HS2_ := (hb.cell (World.block_lt_of_cell? _ _ (hHeld.2.2.1))).trans (hHeld.2.2.1)
      have HS3_ := (hb.cell (World.block_lt_of_cell? _ _ (hHeld.2.2.2.1))).trans (hHeld.2.2.2.1)
      have HS4_ := (hb.cell (World.block_lt_of_cell? _ _ (hHeld.2.2.2.2.1))).trans (hHeld.2.2.2.2.1)
      have HS5_ := (hb.cell (World.block_lt_of_cell? _ _ (hHeld.2.2.2.2.2))).trans (hHeld.2.2.2.2.2)
      refine ⟨_, rfl, ?_⟩
      replace HO_8 := Aside0.mk (Kd.R_below (Kd.R_p HO_8) hb)
      replace BK239 := Aside0.mk (blk_below (kp_ BK239) hb)
      replace HB := Aside0.mk (below_step (hb_ HB) hb)
      refine hK.out _ _ ⟨(blk_cell BK239.out 0).trans rfl, (blk_cell BK239.out 1).trans rfl, HS2_, HS3_, HS4_, HS5_⟩ (fun hHeld => ?_)
      clear hK K
      refine nm_ (some 24) (h := ?_)
      refine pl_ HT_ 5 (some 25) (bb 38 32465911743) (h := ?_)
      refine pl_ HT_ 6 (some 26) (bb 38 32465911807) (h := ?_)
      refine pl_ HT_ 15 (some 35) (bb 38 32465944575) (h := ?_)
      refine pl_ HT_ 16 (some 36) (bb 38 32466010111) (h := ?_)
      refine one_ (i := 21) (N := some 41) (bb 38 32468107263) rfl rfl (one_of HT_.out (by kernel_rfl)) (by decide) (fun K hK => ?_)
      refine goes_ Tryd.func13 (by kernel_rfl) rfl #[.slice (some ad238) l0.length c0, .int .i64 (rd t240 1), .int .i64 1] (by rfl) rfl rfl (by (try simp only [List.map_toArray, List.map_cons, List.map_nil]); first | done | rfl | (simp only [List.length_drop, List.length_take]; rfl)) ?_
      with_reducible refine (ih kj50 (by have := HJ20.out; have := HJ50.out; omega) _ _ l0 (rd t240 1) 1 t256 _ ?side1 ?side2 A88.out (by exact LaidW.step HLw (hb_ HB))).mono ?_
      (case side1 => exact Kd.C_w HR0 HB)
      (case side2 => exact HC0.out)
      rintro e w104 ⟨rfl, hb⟩
      have HS2_ := (hb.cell (World.block_lt_of_cell? _ _ (hHeld.2.2.1))).trans (hHeld.2.2.1)
      have HS3_ := (hb.cell (World.block_lt_of_cell? _ _ (hHeld.2.2.2.1))).trans (hHeld.2.2.2.1)
      have HS4_ := (hb.cell (World.block_lt_of_cell? _ _ (hHeld.2.2.2.2.1))).trans (hHeld.2.2.2.2.1)
      have HS5_ := (hb.cell (World.block_lt_of_cell? _ _ (hHeld.2.2.2.2.2))).trans (hHeld.2.2.2.2.2)
      refine ⟨_, rfl, ?_⟩
      replace HO_8 := Aside0.mk (Kd.R_below (Kd.R_p HO_8) hb)
      replace BK239 := Aside0.mk (blk_below (kp_ BK239) hb)
      replace HB := Aside0.mk (below_step (hb_ HB) hb)
      refine hK.out _ _ ⟨(blk_cell BK239.out 0).trans rfl, (blk_cell BK239.out 1).trans rfl, HS2_, HS3_, HS4_, HS5_⟩ (fun hHeld => ?_)
      clear hK K
      refine nm_ (some 41) (h := ?_)
      refine pl_ HT_ 22 (some 42) (bb 38 32472301567) (h := ?_)
      refine pl_ HT_ 23 (some 43) (bb 38 32480690175) (h := ?_)
      refine one_ (i := 28) (N := some 48) (bb 38 32749125631) rfl rfl (one_of HT_.out (by kernel_rfl)) (by decide) (fun K hK => ?_)
      refine goes_ Tryd.func13 (by kernel_rfl) rfl #[.slice (some ad238) l0.length c0, .int .i64 (rd t240 2), .int .i64 0] (by rfl) rfl rfl (by (try simp only [List.map_toArray, List.map_cons, List.map_nil]); first | done | rfl | (simp only [List.length_drop, List.length_take]; rfl)) ?_
      with_reducible refine (ih kj50 (by have := HJ20.out; have := HJ50.out; omega) _ _ l0 (rd t240 2) 0 t258 _ ?side1 ?side2 A92.out (by exact LaidW.step HLw (hb_ HB))).mono ?_
      (case side1 => exact Kd.C_w HR0 HB)
      (case side2 => exact HC0.out)
      rintro e w105 ⟨rfl, hb⟩
      have HS2_ := (hb.cell (World.block_lt_of_cell? _ _ (hHeld.2.2.1))).trans (hHeld.2.2.1)
      have HS3_ := (hb.cell (World.block_lt_of_cell? _ _ (hHeld.2.2.2.1))).trans (hHeld.2.2.2.1)
      have HS4_ := (hb.cell (World.block_lt_of_cell? _ _ (hHeld.2.2.2.2.1))).trans (hHeld.2.2.2.2.1)
      have HS5_ := (hb.cell (World.block_lt_of_cell? _ _ (hHeld.2.2.2.2.2))).trans (hHeld.2.2.2.2.2)
      refine ⟨_, rfl, ?_⟩
      replace HO_8 := Aside0.mk (Kd.R_below (Kd.R_p HO_8) hb)
      replace BK239 := Aside0.mk (blk_below (kp_ BK239) hb)
      replace HB := Aside0.mk (below_step (hb_ HB) hb)
      refine hK.out _ _ ⟨(blk_cell BK239.out 0).trans rfl, (blk_cell BK239.out 1).trans rfl, HS2_, HS3_, HS4_, HS5_⟩ (fun hHeld => ?_)
      clear hK K
      refine nm_ (some 48) (h := ?_)
      refine pl_ HT_ 29 (some 49) (bb 38 33285996543) (h := ?_)
      refine pl_ HT_ 30 (some 50) (bb 38 34359738367) (h := ?_)
      refine one_ (i := 35) (N := some 55) (bb 38 68719476735) rfl rfl (one_of HT_.out (by kernel_rfl)) (by decide) (fun K hK => ?_)
      refine goes_ Tryd.func13 (by kernel_rfl) rfl #[.slice (some ad238) l0.length c0, .int .i64 (rd t240 3), .int .i64 0] (by rfl) rfl rfl (by (try simp only [List.map_toArray, List.map_cons, List.map_nil]); first | done | rfl | (simp only [List.length_drop, List.length_take]; rfl)) ?_
      with_reducible refine (ih kj50 (by have := HJ20.out; have := HJ50.out; omega) _ _ l0 (rd t240 3) 0 t260 _ ?side1 ?side2 A96.out (by exact LaidW.step HLw (hb_ HB))).mono ?_
      (case side1 => exact Kd.C_w HR0 HB)
      (case side2 => exact HC0.out)
      rintro e w106 ⟨rfl, hb⟩
      have HS2_ := (hb.cell (World.block_lt_of_cell? _ _ (hHeld.2.2.1))).trans (hHeld.2.2.1)
      have HS3_ := (hb.cell (World.block_lt_of_cell? _ _ (hHeld.2.2.2.1))).trans (hHeld.2.2.2.1)
      have HS4_ := (hb.cell (World.block_lt_of_cell? _ _ (hHeld.2.2.2.2.1))).trans (hHeld.2.2.2.2.1)
      have HS5_ := (hb.cell (World.block_lt_of_cell? _ _ (hHeld.2.2.2.2.2))).trans (hHeld.2.2.2.2.2)
      refine ⟨_, rfl, ?_⟩
      replace HO_8 := Aside0.mk (Kd.R_below (Kd.R_p HO_8) hb)
      replace BK239 := Aside0.mk (blk_below (kp_ BK239) hb)
      replace HB := Aside0.mk (below_step (hb_ HB) hb)
      refine hK.out _ _ ⟨(blk_cell BK239.out 0).trans rfl, (blk_cell BK239.out 1).trans rfl, HS2_, HS3_, HS4_, HS5_⟩ (fun hHeld => ?_)
      clear hK K
      refine nm_ (some 55) (h := ?_)
      refine pl_ HT_ 36 (some 56) (bb 38 137438953471) (h := ?_)
      refine pl_ HT_ 37 (some 9) (bb 38 274877906943) (h := ?_)
      refine done_ (done_of HT_.out (by kernel_rfl)) ?_
      try go_wp2
      go_ret
      exact ⟨by first | rfl | (simp [errW_none, errW_some] <;> rfl) | (simp only [← hji81]; first | rfl | (simp [errW_none, errW_some] <;> rfl)) | (simp [*, errW_none, errW_some] <;> rfl), hb_ HB⟩
      )
      exact p11_
     refine ?z12_
     let rec p12_ : type_of% ?z12_ := by(
     rw [if_neg c98] at H
     have c98b0 := decide_eq_false c98
     clear c98
     obtain rfl := Option.some.inj H
     try go_wp2
     replace HO_8 := Aside0.mk (Kd.R_drew HO_8.out)
     replace BK239 := Aside0.mk (blk_drew BK239.out)
     replace HB := Aside0.mk (below_drew1 HB.out)
     obtain ⟨Ao108, co108, eo108⟩ := Kd.R_slice HO_8.out
     (first | subst eo108 | (injection eo108 with f1_ f2_ f3_; have f4_ := f1_.symm; have f5_ := f3_.symm; clear f1_ f2_ f3_; subst f4_; subst f5_))
     have p253 : 0 ≤ (0 : Int) := (by omega)
     have q253 : 0 < (t240.length : Int) := of_decide_eq_true (by first | (with_reducible assumption) | assumption)
     obtain ⟨ad253, e253, hx253_0⟩ := Kd.at_int (Kd.R_reads' HO_8.out).2.2 0 p253 q253
     cases e253
     have qi253 : (0 < t240.length) = True := eq_true (by omega)
     (try rw [show ((0 : Int)).toNat = 0 from rfl] at hx253_0)
     (try rw [Addr.add_zero'] at hx253_0)
     replace p253 := eq_true p253
     replace q253 := eq_true q253
     have p255 : 0 ≤ (1 : Int) := (by omega)
     have q255 : 1 < (t240.length : Int) := of_decide_eq_true (by first | (with_reducible assumption) | assumption)
     obtain ⟨ad255, e255, hx255_0⟩ := Kd.at_int (Kd.R_reads' HO_8.out).2.2 1 p255 q255
     obtain rfl : ad253 = ad255 := (by injection e255)
     (try simp only [show (1 : Int).toNat = 1 from rfl, Nat.reduceMul, Nat.reduceEqDiff, Go.Addr.add, ↓reduceIte] at hx255_0)
     have qi255 : (1 < t240.length) = True := eq_true (by omega)
     (try rw [show ((1 : Int)).toNat = 1 from rfl] at hx255_0)
     replace p255 := eq_true p255
     replace q255 := eq_true q255
     have p257 : 0 ≤ (2 : Int) := (by omega)
     have q257 : 2 < (t240.length : Int) := of_decide_eq_true (by first | (with_reducible assumption) | assumption)
     obtain ⟨ad257, e257, hx257_0⟩ := Kd.at_int (Kd.R_reads' HO_8.out).2.2 2 p257 q257
     obtain rfl : ad253 = ad257 := (by injection e257)
     (try simp only [show (2 : Int).toNat = 2 from rfl, Nat.reduceMul, Nat.reduceEqDiff, Go.Addr.add, ↓reduceIte] at hx257_0)
     have qi257 : (2 < t240.length) = True := eq_true (by omega)
     (try rw [show ((2 : Int)).toNat = 2 from rfl] at hx257_0)
     replace p257 := eq_true p257
     replace q257 := eq_true q257
     have p259 : 0 ≤ (3 : Int) := (by omega)
     have q259 : 3 < (t240.length : Int) := of_decide_eq_true (by first | (with_reducible assumption) | assumption)
     obtain ⟨ad259, e259, hx259_0⟩ := Kd.at_int (Kd.R_reads' HO_8.out).2.2 3 p259 q259
     obtain rfl : ad253 = ad259 := (by injection e259)
     (try simp only [show (3 : Int).toNat = 3 from rfl, Nat.reduceMul, Nat.reduceEqDiff, Go.Addr.add, ↓reduceIte] at hx259_0)
     have qi259 : (3 < t240.length) = True := eq_true (by omega)
     (try rw [show ((3 : Int)).toNat = 3 from rfl] at hx259_0)
     replace p259 := eq_true p259
     replace q259 := eq_true q259
     refine start_ (n := 38) (S := fun w' => w'.cell? ⟨gb239, 0, none⟩ = some (.int .i64 ((rd_T33 l0 a1).f0)) ∧ w'.cell? ⟨gb239, 1, none⟩ = some (.int .i64 ((rd_T33 l0 a1).f1)) ∧ w'.cell? ad253 = some (.int .i64 (rd t240 0)) ∧ w'.cell? ⟨ad253.block, ad253.off + 1, none⟩ = some (.int .i64 (rd t240 1)) ∧ w'.cell? ⟨ad253.block, ad253.off + 2, none⟩ = some (.int .i64 (rd t240 2)) ∧ w'.cell? ⟨ad253.block, ad253.off + 3, none⟩ = some (.int .i64 (rd t240 3))) (ds := []) (bb 38 0) (by kernel_rfl) rfl rfl ⟨(blk_cell BK239.out 0).trans rfl, (blk_cell BK239.out 1).trans rfl, hx253_0, hx255_0, hx257_0, hx259_0⟩ (fun hHeld => ?_); refine with_tabW impl_ruleText.tab6 impl_ruleText.bits6 (fun HT_ HW_ => ?_)
     generalize wc.drew = w107 at HO_8 BK239 HB hx253_0 hx255_0 hx257_0 hx259_0 hHeld ⊢
     refine pl_ HT_ 0 (some 20) (bb 38 1) (h := ?_)
     refine pl_ HT_ 1 (some 21) (bb 38 3) (h := ?_)
     refine pl_ HT_ 2 (some 22) (bb 38 7) (h := ?_)
     refine pl_ HT_ 7 (some 27) (bb 38 135) (h := ?_)
     refine pl_ HT_ 10 (some 30) (bb 38 1159) (h := ?_)
     refine pl_ HT_ 17 (some 37) (bb 38 132231) (h := ?_)
     refine pl_ HT_ 18 (some 38) (bb 38 394375) (h := ?_)
     refine pl_ HT_ 19 (some 39) (bb 38 918663) (h := ?_)
     refine pl_ HT_ 24 (some 44) (bb 38 17695879) (h := ?_)
     refine pl_ HT_ 25 (some 45) (bb 38 51250311) (h := ?_)
     refine pl_ HT_ 26 (some 46) (bb 38 118359175) (h := ?_)
     refine pl_ HT_ 31 (some 51) (bb 38 2265842823) (h := ?_)
     refine pl_ HT_ 32 (some 52) (bb 38 6560810119) (h := ?_)
     refine pl_ HT_ 33 (some 53) (bb 38 15150744711) (h := ?_)
     refine tk_ HT_ HW_ hHeld 3 (some 23) (bb 38 15150744719) (h := ?_)
     refine tk_ HT_ HW_ hHeld 8 (some 28) (bb 38 15150744975) (h := ?_)
     refine pl_ HT_ 9 (some 29) (bb 38 15150745487) (h := ?_)
     refine tk_ HT_ HW_ hHeld 11 (some 31) (bb 38 15150747535) (h := ?_)
     refine pl_ HT_ 12 (some 32) (bb 38 15150751631) (h := ?_)
     refine pl_ HT_ 13 (some 33) (bb 38 15150759823) (h := ?_)
     refine pl_ HT_ 14 (some 34) (bb 38 15150776207) (h := ?_)
     refine tk_ HT_ HW_ hHeld 20 (some 40) (bb 38 15151824783) (h := ?_)
     refine tk_ HT_ HW_ hHeld 27 (some 47) (bb 38 15286042511) (h := ?_)
     refine tk_ HT_ HW_ hHeld 34 (some 54) (bb 38 32465911695) (h := ?_)
     refine one_ (i := 4) (N := some 24) (bb 38 32465911711) rfl rfl (one_of HT_.out (by kernel_rfl)) (by decide) (fun K hK => ?_)
     refine goes_ Tryd.func13 (by kernel_rfl) rfl #[.slice (some ad238) l0.length c0, .int .i64 (rd t240 0), .int .i64 1] (by rfl) rfl rfl (by (try simp only [List.map_toArray, List.map_cons, List.map_nil]); first | done | rfl | (simp only [List.length_drop, List.length_take]; rfl)) ?_
     with_reducible refine (ih kj50 (by have := HJ20.out; have := HJ50.out; omega) _ _ l0 (rd t240 0) 1 t254 _ ?side1 ?side2 A78.out (by exact LaidW.step HLw (hb_ HB))).mono ?_
     (case side1 => exact Kd.C_w HR0 HB)
     (case side2 => exact HC0.out)
     rintro e w109 ⟨rfl, hb⟩
     have HS2_ := (hb.cell (World.block_lt_of_cell? _ _ (hHeld.2.2.1))).trans (hHeld.2.2.1)
     have HS3_ := (hb.cell (World.block_lt_of_cell? _ _ (hHeld.2.2.2.1))).trans (hHeld.2.2.2.1)
     have HS4_ := (hb.cell (World.block_lt_of_cell? _ _ (hHeld.2.2.2.2.1))).trans (hHeld.2.2.2.2.1)
     have HS5_ := (hb.cell (World.block_lt_of_cell? _ _ (hHeld.2.2.2.2.2))).trans (hHeld.2.2.2.2.2)
     refine ⟨_, rfl, ?_⟩
     replace HO_8 := Aside0.mk (Kd.R_below (Kd.R_p HO_8) hb)
     replace BK239 := Aside0.mk (blk_below (kp_ BK239) hb)
     replace HB := Aside0.mk (below_step (hb_ HB) hb)
     refine hK.out _ _ ⟨(blk_cell BK239.out 0).trans rfl, (blk_cell BK239.out 1).trans rfl, HS2_, HS3_, HS4_, HS5_⟩ (fun hHeld => ?_)
     clear hK K
     refine nm_ (some 24) (h := ?_)
     refine pl_ HT_ 5 (some 25) (bb 38 32465911743) (h := ?_)
     refine pl_ HT_ 6 (some 26) (bb 38 32465911807) (h := ?_)
     refine pl_ HT_ 15 (some 35) (bb 38 32465944575) (h := ?_)
     refine pl_ HT_ 16 (some 36) (bb 38 32466010111) (h := ?_)
     refine one_ (i := 21) (N := some 41) (bb 38 32468107263) rfl rfl (one_of HT_.out (by kernel_rfl)) (by decide) (fun K hK => ?_)
     refine goes_ Tryd.func13 (by kernel_rfl) rfl #[.slice (some ad238) l0.length c0, .int .i64 (rd t240 1), .int .i64 1] (by rfl) rfl rfl (by (try simp only [List.map_toArray, List.map_cons, List.map_nil]); first | done | rfl | (simp only [List.length_drop, List.length_take]; rfl)) ?_
     with_reducible refine (ih kj50 (by have := HJ20.out; have := HJ50.out; omega) _ _ l0 (rd t240 1) 1 t256 _ ?side1 ?side2 A88.out (by exact LaidW.step HLw (hb_ HB))).mono ?_
     (case side1 => exact Kd.C_w HR0 HB)
     (case side2 => exact HC0.out)
     rintro e w110 ⟨rfl, hb⟩
     have HS2_ := (hb.cell (World.block_lt_of_cell? _ _ (hHeld.2.2.1))).trans (hHeld.2.2.1)
     have HS3_ := (hb.cell (World.block_lt_of_cell? _ _ (hHeld.2.2.2.1))).trans (hHeld.2.2.2.1)
     have HS4_ := (hb.cell (World.block_lt_of_cell? _ _ (hHeld.2.2.2.2.1))).trans (hHeld.2.2.2.2.1)
     have HS5_ := (hb.cell (World.block_lt_of_cell? _ _ (hHeld.2.2.2.2.2))).trans (hHeld.2.2.2.2.2)
     refine ⟨_, rfl, ?_⟩
     replace HO_8 := Aside0.mk (Kd.R_below (Kd.R_p HO_8) hb)
     replace BK239 := Aside0.mk (blk_below (kp_ BK239) hb)
     replace HB := Aside0.mk (below_step (hb_ HB) hb)
     refine hK.out _ _ ⟨(blk_cell BK239.out 0).trans rfl, (blk_cell BK239.out 1).trans rfl, HS2_, HS3_, HS4_, HS5_⟩ (fun hHeld => ?_)
     clear hK K
     refine nm_ (some 41) (h := ?_)
     refine pl_ HT_ 22 (some 42) (bb 38 32472301567) (h := ?_)
     refine pl_ HT_ 23 (some 43) (bb 38 32480690175) (h := ?_)
     refine one_ (i := 28) (N := some 48) (bb 38 32749125631) rfl rfl (one_of HT_.out (by kernel_rfl)) (by decide) (fun K hK => ?_)
     refine goes_ Tryd.func13 (by kernel_rfl) rfl #[.slice (some ad238) l0.length c0, .int .i64 (rd t240 2), .int .i64 0] (by rfl) rfl rfl (by (try simp only [List.map_toArray, List.map_cons, List.map_nil]); first | done | rfl | (simp only [List.length_drop, List.length_take]; rfl)) ?_
     with_reducible refine (ih kj50 (by have := HJ20.out; have := HJ50.out; omega) _ _ l0 (rd t240 2) 0 t258 _ ?side1 ?side2 A92.out (by exact LaidW.step HLw (hb_ HB))).mono ?_
     (case side1 => exact Kd.C_w HR0 HB)
     (case side2 => exact HC0.out)
     rintro e w111 ⟨rfl, hb⟩
     have HS2_ := (hb.cell (World.block_lt_of_cell? _ _ (hHeld.2.2.1))).trans (hHeld.2.2.1)
     have HS3_ := (hb.cell (World.block_lt_of_cell? _ _ (hHeld.2.2.2.1))).trans (hHeld.2.2.2.1)
     have HS4_ := (hb.cell (World.block_lt_of_cell? _ _ (hHeld.2.2.2.2.1))).trans (hHeld.2.2.2.2.1)
     have HS5_ := (hb.cell (World.block_lt_of_cell? _ _ (hHeld.2.2.2.2.2))).trans (hHeld.2.2.2.2.2)
     refine ⟨_, rfl, ?_⟩
     replace HO_8 := Aside0.mk (Kd.R_below (Kd.R_p HO_8) hb)
     replace BK239 := Aside0.mk (blk_below (kp_ BK239) hb)
     replace HB := Aside0.mk (below_step (hb_ HB) hb)
     refine hK.out _ _ ⟨(blk_cell BK239.out 0).trans rfl, (blk_cell BK239.out 1).trans rfl, HS2_, HS3_, HS4_, HS5_⟩ (fun hHeld => ?_)
     clear hK K
     refine nm_ (some 48) (h := ?_)
     refine pl_ HT_ 29 (some 49) (bb 38 33285996543) (h := ?_)
     refine pl_ HT_ 30 (some 50) (bb 38 34359738367) (h := ?_)
     refine one_ (i := 35) (N := some 55) (bb 38 68719476735) rfl rfl (one_of HT_.out (by kernel_rfl)) (by decide) (fun K hK => ?_)
     refine goes_ Tryd.func13 (by kernel_rfl) rfl #[.slice (some ad238) l0.length c0, .int .i64 (rd t240 3), .int .i64 0] (by rfl) rfl rfl (by (try simp only [List.map_toArray, List.map_cons, List.map_nil]); first | done | rfl | (simp only [List.length_drop, List.length_take]; rfl)) ?_
     with_reducible refine (ih kj50 (by have := HJ20.out; have := HJ50.out; omega) _ _ l0 (rd t240 3) 0 t260 _ ?side1 ?side2 A96.out (by exact LaidW.step HLw (hb_ HB))).mono ?_
     (case side1 => exact Kd.C_w HR0 HB)
     (case side2 => exact HC0.out)
     rintro e w112 ⟨rfl, hb⟩
     have HS2_ := (hb.cell (World.block_lt_of_cell? _ _ (hHeld.2.2.1))).trans (hHeld.2.2.1)
     have HS3_ := (hb.cell (World.block_lt_of_cell? _ _ (hHeld.2.2.2.1))).trans (hHeld.2.2.2.1)
     have HS4_ := (hb.cell (World.block_lt_of_cell? _ _ (hHeld.2.2.2.2.1))).trans (hHeld.2.2.2.2.1)
     have HS5_ := (hb.cell (World.block_lt_of_cell? _ _ (hHeld.2.2.2.2.2))).trans (hHeld.2.2.2.2.2)
     refine ⟨_, rfl, ?_⟩
     replace HO_8 := Aside0.mk (Kd.R_below (Kd.R_p HO_8) hb)
     replace BK239 := Aside0.mk (blk_below (kp_ BK239) hb)
     replace HB := Aside0.mk (below_step (hb_ HB) hb)
     refine hK.out _ _ ⟨(blk_cell BK239.out 0).trans rfl, (blk_cell BK239.out 1).trans rfl, HS2_, HS3_, HS4_, HS5_⟩ (fun hHeld => ?_)
     clear hK K
     refine nm_ (some 55) (h := ?_)
     refine pl_ HT_ 36 (some 56) (bb 38 137438953471) (h := ?_)
     refine pl_ HT_ 37 (some 9) (bb 38 274877906943) (h := ?_)
     refine done_ (done_of HT_.out (by kernel_rfl)) ?_
     try go_wp2
     go_ret
     exact ⟨by first | rfl | (simp [errW_none, errW_some] <;> rfl) | (simp only [← hji81]; first | rfl | (simp [errW_none, errW_some] <;> rfl)) | (simp [*, errW_none, errW_some] <;> rfl), hb_ HB⟩
     )
     exact p12_
    ·rw [if_neg c94] at H
     exact absurd H (by simp)
    )
    exact p10_
   ·rw [if_neg c85] at H
    exact absurd H (by simp)
   )
   exact p9_
  ·rw [if_neg c79] at H
   exact absurd H (by simp)
  )
  exact p8_
 )
 exact p1_

end Go.Proofs.YtikdododhkljeaaDoor.PFnExactRuleText
