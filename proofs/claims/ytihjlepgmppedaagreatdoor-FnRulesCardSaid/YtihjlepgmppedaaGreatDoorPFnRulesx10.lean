-- Laid for this claim by wip/tools/print2.sh, a changed copy of the kit's print (wip/tools/patch_print.py): not by print.sh. Changed by wip/fix/laid.py. Changed by wip/fix/strsize.py. Changed by wip/fix/strext.py.
import Derived.Test.YtihjlepgmppedaaGreatDoorPFnRulesx9
import Derived.Test.YtihjlepgmppedaaGreatDoorVFnRules
namespace Go.Proofs.YtihjlepgmppedaaGreatDoor.PFnRules
open Go.RowKit Go.Proofs.YtihjlepgmppedaaGreatDoorW.PrintWords Go.Proofs.YtihjlepgmppedaaGreatDoorW.PrintLast Go.Proofs.YtihjlepgmppedaaGreatDoorW.PrintMore
set_option linter.unusedVariables false
set_option linter.unusedSimpArgs false

theorem sz_1 (a : UInt8) : (⟨#[a]⟩ : ByteArray).size = 1 := rfl
theorem sz_2 (a b : UInt8) : (⟨#[a, b]⟩ : ByteArray).size = 2 := rfl
theorem sz_3 (a b c : UInt8) : (⟨#[a, b, c]⟩ : ByteArray).size = 3 := rfl
theorem sz_6 (a b c d e f : UInt8) : (⟨#[a, b, c, d, e, f]⟩ : ByteArray).size = 6 := rfl
/-! ### impl_ruleText: function 25 -/
mutual
def impl_ruleText.j0 : Nat → List (S73) → Int → List Int → Int → Bool → Int → Int → Option (ByteArray)
 | 0, _, _, _, _, _, _, _ => none
 | k + 1, x0, x2, x8, x19, x68, x361000, x361001 => if x68 = true then (if 0 < (x8.length : Int) then ((impl_ruleText.f k x0 (rd x8 0) 1).bind fun t367 => (if t367.size + 1 ≤ 9223372036854775807 then (if 0 ≤ (wrap64 (x361000 - 2)) then (if (wrap64 (x361000 - 2)) ≤ (wrap64 ((wrap64 (x361000 - 2)) + 1)) then (if (wrap64 ((wrap64 (x361000 - 2)) + 1)) ≤ 2 then (if (t367 ++ (⟨#[32]⟩ : ByteArray)).size + ((⟨#[43, 45]⟩ : ByteArray).extract ((wrap64 (x361000 - 2)) : Int).toNat ((wrap64 ((wrap64 (x361000 - 2)) + 1)) : Int).toNat).size ≤ 9223372036854775807 then (if ((t367 ++ (⟨#[32]⟩ : ByteArray)) ++ ((⟨#[43, 45]⟩ : ByteArray).extract ((wrap64 (x361000 - 2)) : Int).toNat ((wrap64 ((wrap64 (x361000 - 2)) + 1)) : Int).toNat)).size + 1 ≤ 9223372036854775807 then (if 1 < (x8.length : Int) then ((impl_ruleText.f k x0 (rd x8 1) 2).bind fun t369 => (if (((t367 ++ (⟨#[32]⟩ : ByteArray)) ++ ((⟨#[43, 45]⟩ : ByteArray).extract ((wrap64 (x361000 - 2)) : Int).toNat ((wrap64 ((wrap64 (x361000 - 2)) + 1)) : Int).toNat)) ++ (⟨#[32]⟩ : ByteArray)).size + t369.size ≤ 9223372036854775807 then (if 1 < x2 then (if 2 + ((((t367 ++ (⟨#[32]⟩ : ByteArray)) ++ ((⟨#[43, 45]⟩ : ByteArray).extract ((wrap64 (x361000 - 2)) : Int).toNat ((wrap64 ((wrap64 (x361000 - 2)) + 1)) : Int).toNat)) ++ (⟨#[32]⟩ : ByteArray)) ++ t369).size ≤ 9223372036854775807 then (if ((⟨#[40, 32]⟩ : ByteArray) ++ ((((t367 ++ (⟨#[32]⟩ : ByteArray)) ++ ((⟨#[43, 45]⟩ : ByteArray).extract ((wrap64 (x361000 - 2)) : Int).toNat ((wrap64 ((wrap64 (x361000 - 2)) + 1)) : Int).toNat)) ++ (⟨#[32]⟩ : ByteArray)) ++ t369)).size + 2 ≤ 9223372036854775807 then (some (((⟨#[40, 32]⟩ : ByteArray) ++ ((((t367 ++ (⟨#[32]⟩ : ByteArray)) ++ ((⟨#[43, 45]⟩ : ByteArray).extract ((wrap64 (x361000 - 2)) : Int).toNat ((wrap64 ((wrap64 (x361000 - 2)) + 1)) : Int).toNat)) ++ (⟨#[32]⟩ : ByteArray)) ++ t369)) ++ (⟨#[32, 41]⟩ : ByteArray))) else (none)) else (none)) else (some ((((t367 ++ (⟨#[32]⟩ : ByteArray)) ++ ((⟨#[43, 45]⟩ : ByteArray).extract ((wrap64 (x361000 - 2)) : Int).toNat ((wrap64 ((wrap64 (x361000 - 2)) + 1)) : Int).toNat)) ++ (⟨#[32]⟩ : ByteArray)) ++ t369))) else (none))) else (none)) else (none)) else (none)) else (none)) else (none)) else (none)) else (none))) else (none)) else (if x19 = 4 then (impl_ruleText.j1 k x0 x2 x8 (x19 == 4) x361000 x361001) else (impl_ruleText.j1 k x0 x2 x8 (x19 == 5) x361000 x361001))
def impl_ruleText.j1 : Nat → List (S73) → Int → List Int → Bool → Int → Int → Option (ByteArray)
 | 0, _, _, _, _, _, _ => none
 | k + 1, x0, x2, x8, x93, x361000, x361001 => if x93 = true then (if 0 < (x8.length : Int) then ((impl_ruleText.f k x0 (rd x8 0) 2).bind fun t371 => (if t371.size + 1 ≤ 9223372036854775807 then (if 0 ≤ (wrap64 (x361000 - 4)) then (if (wrap64 (x361000 - 4)) ≤ (wrap64 ((wrap64 (x361000 - 4)) + 1)) then (if (wrap64 ((wrap64 (x361000 - 4)) + 1)) ≤ 2 then (if (t371 ++ (⟨#[32]⟩ : ByteArray)).size + ((⟨#[42, 47]⟩ : ByteArray).extract ((wrap64 (x361000 - 4)) : Int).toNat ((wrap64 ((wrap64 (x361000 - 4)) + 1)) : Int).toNat).size ≤ 9223372036854775807 then (if ((t371 ++ (⟨#[32]⟩ : ByteArray)) ++ ((⟨#[42, 47]⟩ : ByteArray).extract ((wrap64 (x361000 - 4)) : Int).toNat ((wrap64 ((wrap64 (x361000 - 4)) + 1)) : Int).toNat)).size + 1 ≤ 9223372036854775807 then (if 1 < (x8.length : Int) then ((impl_ruleText.f k x0 (rd x8 1) 3).bind fun t373 => (if (((t371 ++ (⟨#[32]⟩ : ByteArray)) ++ ((⟨#[42, 47]⟩ : ByteArray).extract ((wrap64 (x361000 - 4)) : Int).toNat ((wrap64 ((wrap64 (x361000 - 4)) + 1)) : Int).toNat)) ++ (⟨#[32]⟩ : ByteArray)).size + t373.size ≤ 9223372036854775807 then (if 2 < x2 then (if 2 + ((((t371 ++ (⟨#[32]⟩ : ByteArray)) ++ ((⟨#[42, 47]⟩ : ByteArray).extract ((wrap64 (x361000 - 4)) : Int).toNat ((wrap64 ((wrap64 (x361000 - 4)) + 1)) : Int).toNat)) ++ (⟨#[32]⟩ : ByteArray)) ++ t373).size ≤ 9223372036854775807 then (if ((⟨#[40, 32]⟩ : ByteArray) ++ ((((t371 ++ (⟨#[32]⟩ : ByteArray)) ++ ((⟨#[42, 47]⟩ : ByteArray).extract ((wrap64 (x361000 - 4)) : Int).toNat ((wrap64 ((wrap64 (x361000 - 4)) + 1)) : Int).toNat)) ++ (⟨#[32]⟩ : ByteArray)) ++ t373)).size + 2 ≤ 9223372036854775807 then (some (((⟨#[40, 32]⟩ : ByteArray) ++ ((((t371 ++ (⟨#[32]⟩ : ByteArray)) ++ ((⟨#[42, 47]⟩ : ByteArray).extract ((wrap64 (x361000 - 4)) : Int).toNat ((wrap64 ((wrap64 (x361000 - 4)) + 1)) : Int).toNat)) ++ (⟨#[32]⟩ : ByteArray)) ++ t373)) ++ (⟨#[32, 41]⟩ : ByteArray))) else (none)) else (none)) else (some ((((t371 ++ (⟨#[32]⟩ : ByteArray)) ++ ((⟨#[42, 47]⟩ : ByteArray).extract ((wrap64 (x361000 - 4)) : Int).toNat ((wrap64 ((wrap64 (x361000 - 4)) + 1)) : Int).toNat)) ++ (⟨#[32]⟩ : ByteArray)) ++ t373))) else (none))) else (none)) else (none)) else (none)) else (none)) else (none)) else (none)) else (none))) else (none)) else (if 0 < (x8.length : Int) then ((impl_ruleText.f k x0 (rd x8 0) 1).bind fun t375 => (if 3 + t375.size ≤ 9223372036854775807 then (if ((⟨#[105, 102, 32]⟩ : ByteArray) ++ t375).size + 1 ≤ 9223372036854775807 then (if 0 ≤ (wrap64 (x361000 - 6)) then (if (wrap64 (x361000 - 6)) ≤ (wrap64 ((wrap64 (x361000 - 6)) + 1)) then (if (wrap64 ((wrap64 (x361000 - 6)) + 1)) ≤ 3 then (if (((⟨#[105, 102, 32]⟩ : ByteArray) ++ t375) ++ (⟨#[32]⟩ : ByteArray)).size + ((⟨#[60, 61, 62]⟩ : ByteArray).extract ((wrap64 (x361000 - 6)) : Int).toNat ((wrap64 ((wrap64 (x361000 - 6)) + 1)) : Int).toNat).size ≤ 9223372036854775807 then (if ((((⟨#[105, 102, 32]⟩ : ByteArray) ++ t375) ++ (⟨#[32]⟩ : ByteArray)) ++ ((⟨#[60, 61, 62]⟩ : ByteArray).extract ((wrap64 (x361000 - 6)) : Int).toNat ((wrap64 ((wrap64 (x361000 - 6)) + 1)) : Int).toNat)).size + 1 ≤ 9223372036854775807 then (if 1 < (x8.length : Int) then ((impl_ruleText.f k x0 (rd x8 1) 1).bind fun t377 => (if (((((⟨#[105, 102, 32]⟩ : ByteArray) ++ t375) ++ (⟨#[32]⟩ : ByteArray)) ++ ((⟨#[60, 61, 62]⟩ : ByteArray).extract ((wrap64 (x361000 - 6)) : Int).toNat ((wrap64 ((wrap64 (x361000 - 6)) + 1)) : Int).toNat)) ++ (⟨#[32]⟩ : ByteArray)).size + t377.size ≤ 9223372036854775807 then (if ((((((⟨#[105, 102, 32]⟩ : ByteArray) ++ t375) ++ (⟨#[32]⟩ : ByteArray)) ++ ((⟨#[60, 61, 62]⟩ : ByteArray).extract ((wrap64 (x361000 - 6)) : Int).toNat ((wrap64 ((wrap64 (x361000 - 6)) + 1)) : Int).toNat)) ++ (⟨#[32]⟩ : ByteArray)) ++ t377).size + 6 ≤ 9223372036854775807 then (if 2 < (x8.length : Int) then ((impl_ruleText.f k x0 (rd x8 2) 0).bind fun t379 => (if (((((((⟨#[105, 102, 32]⟩ : ByteArray) ++ t375) ++ (⟨#[32]⟩ : ByteArray)) ++ ((⟨#[60, 61, 62]⟩ : ByteArray).extract ((wrap64 (x361000 - 6)) : Int).toNat ((wrap64 ((wrap64 (x361000 - 6)) + 1)) : Int).toNat)) ++ (⟨#[32]⟩ : ByteArray)) ++ t377) ++ (⟨#[32, 116, 104, 101, 110, 32]⟩ : ByteArray)).size + t379.size ≤ 9223372036854775807 then (if ((((((((⟨#[105, 102, 32]⟩ : ByteArray) ++ t375) ++ (⟨#[32]⟩ : ByteArray)) ++ ((⟨#[60, 61, 62]⟩ : ByteArray).extract ((wrap64 (x361000 - 6)) : Int).toNat ((wrap64 ((wrap64 (x361000 - 6)) + 1)) : Int).toNat)) ++ (⟨#[32]⟩ : ByteArray)) ++ t377) ++ (⟨#[32, 116, 104, 101, 110, 32]⟩ : ByteArray)) ++ t379).size + 6 ≤ 9223372036854775807 then (if 3 < (x8.length : Int) then ((impl_ruleText.f k x0 (rd x8 3) 0).bind fun t381 => (if (((((((((⟨#[105, 102, 32]⟩ : ByteArray) ++ t375) ++ (⟨#[32]⟩ : ByteArray)) ++ ((⟨#[60, 61, 62]⟩ : ByteArray).extract ((wrap64 (x361000 - 6)) : Int).toNat ((wrap64 ((wrap64 (x361000 - 6)) + 1)) : Int).toNat)) ++ (⟨#[32]⟩ : ByteArray)) ++ t377) ++ (⟨#[32, 116, 104, 101, 110, 32]⟩ : ByteArray)) ++ t379) ++ (⟨#[32, 101, 108, 115, 101, 32]⟩ : ByteArray)).size + t381.size ≤ 9223372036854775807 then (if 0 < x2 then (if 2 + ((((((((((⟨#[105, 102, 32]⟩ : ByteArray) ++ t375) ++ (⟨#[32]⟩ : ByteArray)) ++ ((⟨#[60, 61, 62]⟩ : ByteArray).extract ((wrap64 (x361000 - 6)) : Int).toNat ((wrap64 ((wrap64 (x361000 - 6)) + 1)) : Int).toNat)) ++ (⟨#[32]⟩ : ByteArray)) ++ t377) ++ (⟨#[32, 116, 104, 101, 110, 32]⟩ : ByteArray)) ++ t379) ++ (⟨#[32, 101, 108, 115, 101, 32]⟩ : ByteArray)) ++ t381).size ≤ 9223372036854775807 then (if ((⟨#[40, 32]⟩ : ByteArray) ++ ((((((((((⟨#[105, 102, 32]⟩ : ByteArray) ++ t375) ++ (⟨#[32]⟩ : ByteArray)) ++ ((⟨#[60, 61, 62]⟩ : ByteArray).extract ((wrap64 (x361000 - 6)) : Int).toNat ((wrap64 ((wrap64 (x361000 - 6)) + 1)) : Int).toNat)) ++ (⟨#[32]⟩ : ByteArray)) ++ t377) ++ (⟨#[32, 116, 104, 101, 110, 32]⟩ : ByteArray)) ++ t379) ++ (⟨#[32, 101, 108, 115, 101, 32]⟩ : ByteArray)) ++ t381)).size + 2 ≤ 9223372036854775807 then (some (((⟨#[40, 32]⟩ : ByteArray) ++ ((((((((((⟨#[105, 102, 32]⟩ : ByteArray) ++ t375) ++ (⟨#[32]⟩ : ByteArray)) ++ ((⟨#[60, 61, 62]⟩ : ByteArray).extract ((wrap64 (x361000 - 6)) : Int).toNat ((wrap64 ((wrap64 (x361000 - 6)) + 1)) : Int).toNat)) ++ (⟨#[32]⟩ : ByteArray)) ++ t377) ++ (⟨#[32, 116, 104, 101, 110, 32]⟩ : ByteArray)) ++ t379) ++ (⟨#[32, 101, 108, 115, 101, 32]⟩ : ByteArray)) ++ t381)) ++ (⟨#[32, 41]⟩ : ByteArray))) else (none)) else (none)) else (some ((((((((((⟨#[105, 102, 32]⟩ : ByteArray) ++ t375) ++ (⟨#[32]⟩ : ByteArray)) ++ ((⟨#[60, 61, 62]⟩ : ByteArray).extract ((wrap64 (x361000 - 6)) : Int).toNat ((wrap64 ((wrap64 (x361000 - 6)) + 1)) : Int).toNat)) ++ (⟨#[32]⟩ : ByteArray)) ++ t377) ++ (⟨#[32, 116, 104, 101, 110, 32]⟩ : ByteArray)) ++ t379) ++ (⟨#[32, 101, 108, 115, 101, 32]⟩ : ByteArray)) ++ t381))) else (none))) else (none)) else (none)) else (none))) else (none)) else (none)) else (none))) else (none)) else (none)) else (none)) else (none)) else (none)) else (none)) else (none)) else (none))) else (none))
def impl_ruleText.f : Nat → List (S73) → Int → Int → Option (ByteArray)
 | 0, _, _, _ => none
 | k + 1, l0, a1, a2 => if 0 ≤ a1 then (if a1 < (l0.length : Int) then ((impl_partNeeds.f k l0 a1).bind fun t361 => (if ((rd_T73 l0 a1).f0) = 0 then ((strconv_Itoa.f ((rd_T73 l0 a1).f1)).bind fun t364 => (some t364)) else (if ((rd_T73 l0 a1).f0) = 1 then (if 0 ≤ ((rd_T73 l0 a1).f1) then (if ((rd_T73 l0 a1).f1) < 5 then (some (rdOf ByteArray.empty fieldNames_ ((rd_T73 l0 a1).f1))) else (none)) else (none)) else (if ((rd_T73 l0 a1).f0) = 2 then (impl_ruleText.j0 k l0 a2 t361 ((rd_T73 l0 a1).f0) (((rd_T73 l0 a1).f0) == 2) ((rd_T73 l0 a1).f0) ((rd_T73 l0 a1).f1)) else (impl_ruleText.j0 k l0 a2 t361 ((rd_T73 l0 a1).f0) (((rd_T73 l0 a1).f0) == 3) ((rd_T73 l0 a1).f0) ((rd_T73 l0 a1).f1)))))) else (none)) else (none)
end
def impl_ruleText.T6 : Bool × List (List Nat × List Nat) := (true, [([], []), ([], []), ([1], [1]), ([2], [2]), ([0, 3], [0, 3]), ([4], [4]), ([5], [5]), ([], []), ([7], [7]), ([8], [8]), ([], []), ([10], [10]), ([11], [11]), ([12], [12]), ([9, 13], [9, 13]), ([6, 14], [6, 14]), ([15], [15]), ([], []), ([], []), ([18], [18]), ([19], [19]), ([17, 20, 4], [17, 20]), ([16, 21], [16, 21]), ([22], [22]), ([], []), ([], []), ([25], [25]), ([26], [26]), ([24, 27, 21], [24, 27]), ([23, 28], [23, 28]), ([29], [29]), ([], []), ([], []), ([32], [32]), ([33], [33]), ([31, 34, 28], [31, 34]), ([30, 35], [30, 35]), ([36, 35, 0, 1, 2, 3, 4, 5, 6, 7, 8, 9, 10, 11, 12, 13, 14, 15, 16, 17, 18, 19, 20, 21, 22, 23, 24, 25, 26, 27, 28, 29, 30, 31, 32, 33, 34, 35, 36], [36])])
def impl_ruleText.B6 : List Nat := [0, 0, 2, 6, 15, 31, 63, 0, 128, 384, 0, 1024, 3072, 7168, 16256, 32767, 65535, 0, 0, 262144, 786432, 1966111, 4194303, 8388607, 0, 0, 33554432, 100663296, 255721503, 536870911, 1073741823, 0, 0, 4294967296, 12884901888, 32736411679, 68719476735, 137438953471]
theorem impl_ruleText.tab6 : rtab .any (opsOf Tryz.f25 6) = impl_ruleText.T6 := by kernel_rfl
theorem impl_ruleText.bits6 : waitsOk impl_ruleText.T6.2 impl_ruleText.B6 = true := by kernel_rfl
def impl_ruleText.T14 : Bool × List (List Nat × List Nat) := (true, [([], []), ([], []), ([1], [1]), ([2], [2]), ([0, 3], [0, 3]), ([4], [4]), ([], []), ([6], [6]), ([7], [7]), ([], []), ([9], [9]), ([10], [10]), ([11], [11]), ([8, 12], [8, 12]), ([5, 13], [5, 13]), ([14], [14]), ([], []), ([], []), ([17], [17]), ([18], [18]), ([16, 19, 4], [16, 19]), ([15, 20], [15, 20]), ([21, 20, 0, 1, 2, 3, 4, 5, 6, 7, 8, 9, 10, 11, 12, 13, 14, 15, 16, 17, 18, 19, 20, 21], [21])])
def impl_ruleText.B14 : List Nat := [0, 0, 2, 6, 15, 31, 0, 64, 192, 0, 512, 1536, 3584, 8128, 16383, 32767, 0, 0, 131072, 393216, 983071, 2097151, 4194303]
theorem impl_ruleText.tab14 : rtab .any (opsOf Tryz.f25 14) = impl_ruleText.T14 := by kernel_rfl
theorem impl_ruleText.bits14 : waitsOk impl_ruleText.T14.2 impl_ruleText.B14 = true := by kernel_rfl
def impl_ruleText.T18 : Bool × List (List Nat × List Nat) := (true, [([], []), ([], []), ([1], [1]), ([2], [2]), ([0, 3], [0, 3]), ([4], [4]), ([], []), ([6], [6]), ([7], [7]), ([], []), ([9], [9]), ([10], [10]), ([11], [11]), ([8, 12], [8, 12]), ([5, 13], [5, 13]), ([14], [14]), ([], []), ([], []), ([17], [17]), ([18], [18]), ([16, 19, 4], [16, 19]), ([15, 20], [15, 20]), ([21, 20, 0, 1, 2, 3, 4, 5, 6, 7, 8, 9, 10, 11, 12, 13, 14, 15, 16, 17, 18, 19, 20, 21], [21])])
def impl_ruleText.B18 : List Nat := [0, 0, 2, 6, 15, 31, 0, 64, 192, 0, 512, 1536, 3584, 8128, 16383, 32767, 0, 0, 131072, 393216, 983071, 2097151, 4194303]
theorem impl_ruleText.tab18 : rtab .any (opsOf Tryz.f25 18) = impl_ruleText.T18 := by kernel_rfl
theorem impl_ruleText.bits18 : waitsOk impl_ruleText.T18.2 impl_ruleText.B18 = true := by kernel_rfl
set_option maxHeartbeats 60000000 in
set_option maxRecDepth 100000 in
theorem impl_ruleText.calls (k : Nat) : ∀ (A0 : Option Addr) (c0 : Nat) (l0 : List (S73)) (a1 : Int) (a2 : Int) (r : ByteArray) (w : World) (hr0 : Kd.C k73 w A0 l0.length l0) (hc0 : l0.length ≤ c0) (h : impl_ruleText.f k l0 a1 a2 = some r) (hL : LaidW w),
  Calls Tryz.prog 25 #[.slice A0 l0.length c0, .int .i64 a1, .int .i64 a2] w fun e w' => e = .returned (.string r) ∧ Below w.heap.size w w' := by
 induction k using Nat.strongRecOn with
 | _ k ih =>
 intro A0 c0 l0 a1 a2 r w hr0 hc0 h hL
 have HLw := am_ hL
 clear hL
 have HRg0 := am_ (LaidW.names HLw.out)
 cases k with
 | zero => exact absurd h (by simp [impl_ruleText.f])
 | succ k =>
 simp only [impl_ruleText.f] at h
 have hu73 := Tryz.underlying73
 have HR0 := am_ hr0
 have HC0 := am_ hc0
 clear hr0 hc0
 have HB := am_ (Below.refl w.heap.size w)
 have H := h
 clear h
 revert H; refine pd_ fun c4b0 H => ?_
 revert H; refine pd_ fun c5b0 H => ?_
 revert H; refine bn_ ?_; rintro t361 A6 H; try dsimp only at H
 by_cases c7 : ((rd_T73 l0 a1).f0) = 0
 ·rw [if_pos c7] at H
  have c7b0 : (((rd_T73 l0 a1).f0) == 0) = true := beq_iff_eq.mpr c7
  have c7b1 : (((rd_T73 l0 a1).f0) != 0) = false := bne_eq_false_iff_eq.mpr c7
  clear c7
  revert H; refine bn_ ?_; rintro t364 A8 H; try dsimp only at H
  obtain rfl := Option.some.inj H
  have p359 : 0 ≤ (a1 : Int) := od_
  have q359 : a1 < (l0.length : Int) := od_
  obtain ⟨ad359, e359, hx359_0, hx359_1⟩ := at_T73 HR0.out a1 p359 q359
  cases e359
  replace p359 := eq_true p359
  replace q359 := eq_true q359
  go_enter Tryz.func25, Tryz.ntmps25
  go_wp2_with (first | ((with_reducible refine gate_dst (N := 7) rfl ?_); refine bv_ 7 (cs := #[.int .i64 0, .int .i64 0]) (t := 73) ?_; intro gb360 hg w9 hbox hb; have BK360 := am_ (hbox); have GW360 := gs_ hg HB; have GE360 := gs_ hg HB; replace HB := hbs_ HB hb; clear hb hbox hg; obtain ⟨hcz10_0, hcz10_1, hfz10_0, hfz10_1⟩ := bx2 BK360) | ((with_reducible refine gk_ 45 ?_); refine gq_ 17 Tryz.func45 #[.slice (some ad359) l0.length c0, .int .i64 a1] ?_; (with_reducible refine (impl_partNeeds.calls k _ _ l0 a1 t361 _ ?_ ?_ A6.out).mono ?_); exact Kd.C_below HR0.out (hb_ HB); exact HC0.out; rintro e w11 ⟨v362, rfl, ho0, hb⟩; refine ⟨_, rfl, ?_⟩; have HO363 := Kd.R_lo ho0 HB; replace BK360 := am_ (blk_below (g := gb360) (o := .cells #[.int .i64 ((rd_T73 l0 a1).f0), .int .i64 ((rd_T73 l0 a1).f1)] 73 (0, 0)) (kpq_ (kputs BK360 [(0, _), (1, _)])) hb); replace HB := hbs_ HB hb; obtain ⟨hcz12_0, hcz12_1, hfz12_0, hfz12_1⟩ := bx2 BK360; try clear HO363) | ((with_reducible refine gk_ 46 ?_); refine gq_ 61 Tryz.func46 #[.int .i64 ((rd_T73 l0 a1).f1)] ?_; (with_reducible refine (strconv_Itoa.calls ((rd_T73 l0 a1).f1) t364 _ A8.out (by exact LaidW.step HLw (hb_ HB))).mono ?_); rintro e w13 ⟨rfl, hb⟩; refine ⟨_, rfl, ?_⟩; replace BK360 := kb_ BK360 hb; replace HB := hbs_ HB hb))
  go_ret
  exact ad_ (hb_ HB)
 rw [if_neg c7] at H
 have c7b0 : (((rd_T73 l0 a1).f0) == 0) = false := beq_eq_false_iff_ne.mpr c7
 have c7b1 : (((rd_T73 l0 a1).f0) != 0) = true := bne_iff_ne.mpr c7
 by_cases c14 : ((rd_T73 l0 a1).f0) = 1
 ·rw [if_pos c14] at H
  have c14b0 : (((rd_T73 l0 a1).f0) == 1) = true := beq_iff_eq.mpr c14
  have c14b1 : (((rd_T73 l0 a1).f0) != 1) = false := bne_eq_false_iff_eq.mpr c14
  clear c14
  revert H; refine pd_ fun c15b0 H => ?_
  revert H; refine pd_ fun c16b0 H => ?_
  obtain rfl := Option.some.inj H
  have p359 : 0 ≤ (a1 : Int) := od_
  have q359 : a1 < (l0.length : Int) := od_
  obtain ⟨ad359, e359, hx359_0, hx359_1⟩ := at_T73 HR0.out a1 p359 q359
  cases e359
  replace p359 := eq_true p359
  replace q359 := eq_true q359
  go_enter Tryz.func25, Tryz.ntmps25
  go_wp2_with (first | ((with_reducible refine gate_dst (N := 7) rfl ?_); refine bv_ 7 (cs := #[.int .i64 0, .int .i64 0]) (t := 73) ?_; intro gb360 hg w17 hbox hb; have BK360 := am_ (hbox); have GW360 := gs_ hg HB; have GE360 := gs_ hg HB; replace HB := hbs_ HB hb; clear hb hbox hg; obtain ⟨hcz18_0, hcz18_1, hfz18_0, hfz18_1⟩ := bx2 BK360) | ((with_reducible refine gk_ 45 ?_); refine gq_ 17 Tryz.func45 #[.slice (some ad359) l0.length c0, .int .i64 a1] ?_; (with_reducible refine (impl_partNeeds.calls k _ _ l0 a1 t361 _ ?_ ?_ A6.out).mono ?_); exact Kd.C_below HR0.out (hb_ HB); exact HC0.out; rintro e w19 ⟨v362, rfl, ho0, hb⟩; refine ⟨_, rfl, ?_⟩; have HO363 := Kd.R_lo ho0 HB; replace BK360 := am_ (blk_below (g := gb360) (o := .cells #[.int .i64 ((rd_T73 l0 a1).f0), .int .i64 ((rd_T73 l0 a1).f1)] 73 (0, 0)) (kpq_ (kputs BK360 [(0, _), (1, _)])) hb); replace HB := hbs_ HB hb; obtain ⟨hcz20_0, hcz20_1, hfz20_0, hfz20_1⟩ := bx2 BK360; have p365 : 0 ≤ (((rd_T73 l0 a1).f1) : Int) := od_; have q365 : ((rd_T73 l0 a1).f1) < (fieldNames_.length : Int) := od_; have ql365 : ((((rd_T73 l0 a1).f1) : Int) < (5 : Int)) = True := eq_true (od_); obtain ⟨ad365, e365, hx365_0⟩ := Kd.at_string HRg0.out ((rd_T73 l0 a1).f1) p365 q365; obtain rfl : (⟨0, 0, none⟩ : Addr) = ad365 := (by injection e365); (first | simp only [add_plain] at hx365_0 | simp only [add_at] at hx365_0 | simp only [Addr.add, Nat.zero_add] at hx365_0 | skip); replace hx365_0 := hc_ HB hx365_0; replace p365 := eq_true p365; replace q365 := eq_true q365))
  go_ret
  exact ad_ (hb_ HB)
 refine ?z1_
 let rec p1_ : type_of% ?z1_ := by(
 rw [if_neg c14] at H
 have c14b0 : (((rd_T73 l0 a1).f0) == 1) = false := beq_eq_false_iff_ne.mpr c14
 have c14b1 : (((rd_T73 l0 a1).f0) != 1) = true := bne_iff_ne.mpr c14
 have HC21 := am_ H
 clear H
 have p359 : 0 ≤ (a1 : Int) := od_
 have q359 : a1 < (l0.length : Int) := od_
 obtain ⟨ad359, e359, hx359_0, hx359_1⟩ := at_T73 HR0.out a1 p359 q359
 cases e359
 replace p359 := eq_true p359
 replace q359 := eq_true q359
 go_enter Tryz.func25, Tryz.ntmps25
 go_upto_if 68 with (first | ((with_reducible refine gate_dst (N := 7) rfl ?_); refine bv_ 7 (cs := #[.int .i64 0, .int .i64 0]) (t := 73) ?_; intro gb360 hg w22 hbox hb; have BK360 := am_ (hbox); have GW360 := gs_ hg HB; have GE360 := gs_ hg HB; replace HB := hbs_ HB hb; clear hb hbox hg; obtain ⟨hcz23_0, hcz23_1, hfz23_0, hfz23_1⟩ := bx2 BK360) | ((with_reducible refine gk_ 45 ?_); refine gq_ 17 Tryz.func45 #[.slice (some ad359) l0.length c0, .int .i64 a1] ?_; (with_reducible refine (impl_partNeeds.calls k _ _ l0 a1 t361 _ ?_ ?_ A6.out).mono ?_); exact Kd.C_below HR0.out (hb_ HB); exact HC0.out; rintro e w24 ⟨v362, rfl, ho0, hb⟩; refine ⟨_, rfl, ?_⟩; have HO363 := Kd.R_lo ho0 HB; replace BK360 := am_ (blk_below (g := gb360) (o := .cells #[.int .i64 ((rd_T73 l0 a1).f0), .int .i64 ((rd_T73 l0 a1).f1)] 73 (0, 0)) (kpq_ (kputs BK360 [(0, _), (1, _)])) hb); replace HB := hbs_ HB hb; obtain ⟨hcz25_0, hcz25_1, hfz25_0, hfz25_1⟩ := bx2 BK360))
 (try simp only [Act.put, List.setIfInBounds_toArray, List.set_cons_zero, List.set_cons_succ])
 go_cut [68] (fun v68 wc => ∃ (kq : Nat) (x68_20 : Bool), v68 = .bool x68_20 ∧ Aside0 (impl_ruleText.j0 kq l0 a2 t361 ((rd_T73 l0 a1).f0) x68_20 ((rd_T73 l0 a1).f0) ((rd_T73 l0 a1).f1) = some r) ∧ Aside0 (kq ≤ k) ∧ Aside0 (Kd.R (Kd.int .i64) 3 wc w.heap.size (fun _ => True) v362 t361) ∧ Aside0 (wc.heap[gb360]? = some (.cells #[.int .i64 ((rd_T73 l0 a1).f0), .int .i64 ((rd_T73 l0 a1).f1)] 73 (0, 0))) ∧ Aside0 (Below w.heap.size w wc))
 case first =>
  have H := HC21.out
  clear HC21
  by_cases c26 : ((rd_T73 l0 a1).f0) = 2
  ·rw [if_pos c26] at H
   have c26b0 : (((rd_T73 l0 a1).f0) == 2) = true := beq_iff_eq.mpr c26
   have c26b1 : (((rd_T73 l0 a1).f0) != 2) = false := bne_eq_false_iff_eq.mpr c26
   clear c26
   (first | rw [c26b0] | (simp only [i64_w, i32_w]; rw [c26b0]) | skip)
   have H' := am_ H
   clear H
   go_wp2
   go_meet
   case rel => exact ⟨_, ((((rd_T73 l0 a1).f0) == 2)), sr_, H', ⟨by first | omega | exact Nat.le_refl _⟩, ⟨Kd.R_p HO363⟩, ⟨kp_ BK360⟩, ⟨hb_ HB⟩⟩
  rw [if_neg c26] at H
  have c26b0 : (((rd_T73 l0 a1).f0) == 2) = false := beq_eq_false_iff_ne.mpr c26
  have c26b1 : (((rd_T73 l0 a1).f0) != 2) = true := bne_iff_ne.mpr c26
  (first | rw [c26b0] | (simp only [i64_w, i32_w]; rw [c26b0]) | skip)
  have H' := am_ H
  clear H
  go_wp2
  go_meet
  case rel => exact ⟨_, ((((rd_T73 l0 a1).f0) == 3)), sr_, H', ⟨by first | omega | exact Nat.le_refl _⟩, ⟨Kd.R_p HO363⟩, ⟨kp_ BK360⟩, ⟨hb_ HB⟩⟩
 case rest =>
  clear HC21
  obtain ⟨kq, x68_20, rfl, HA, HJ20, HO_8, BK360, HB⟩ := hcut
  cases kq with
  | zero => exact absurd HA.out (by simp [impl_ruleText.j0])
  | succ kj20 => ?_
  have H := HA.out
  clear HA
  simp only [impl_ruleText.j0] at H
  by_cases c27 : x68_20 = true
  ·subst c27
   rw [if_pos rfl] at H
   revert H; refine pf_ fun c28 H => ?_
   have c28b0 := decide_eq_true c28
   have c28b1 : decide (0 < t361.length) = true := decide_eq_true (by omega)
   clear c28
   revert H; refine bn_ ?_; rintro t367 A29 H; try dsimp only at H
   by_cases c30 : t367.size + 1 ≤ 9223372036854775807
   case neg => rw [if_neg c30] at H; exact absurd H (by simp)
   refine ?z2_
   let rec p2_ : type_of% ?z2_ := by(
   rw [if_pos c30] at H
   have c30b0 := eq_true c30
   have c30b1 := decide_eq_true c30
   try have c30b2 : (9223372036854775807 < t367.size + 1) = False := eq_false (Nat.not_lt.2 c30)
   obtain ⟨ji31, hji31⟩ : ∃ j_ : Int, (wrap64 (((rd_T73 l0 a1).f0) - 2)) = j_ := ⟨_, rfl⟩
   first | rw [hji31] at H | simp only [hji31] at H
   (try rw [hji31] at A29)
   have hji31w : (IntKind.i64.wrap (((rd_T73 l0 a1).f0) - 2)) = ji31 := (i64_w _).trans hji31
   by_cases c32 : 0 ≤ (ji31)
   ·rw [if_pos c32] at H
    have c32b0 := eq_true c32
    have c32b1 := decide_eq_true c32
    clear c32
    revert H; refine pf_ fun c33 H => ?_
    have c33b0 := eq_true c33
    have c33b1 := decide_eq_true c33
    revert H; refine pf_ fun c34 H => ?_
    have c34b0 := eq_true c34
    have c34b1 := decide_eq_true c34
    revert H; refine pf_ fun c35 H => ?_
    have c35b0 := eq_true c35
    have c35b1 := decide_eq_true c35
    try have c35b2 : (9223372036854775807 < (t367 ++ (⟨#[32]⟩ : ByteArray)).size + ((⟨#[43, 45]⟩ : ByteArray).extract ((ji31) : Int).toNat ((wrap64 ((ji31) + 1)) : Int).toNat).size) = False := eq_false (Nat.not_lt.2 c35)
    have c35b3 : (9223372036854775807 < t367.size + 1 + (((wrap64 ((ji31) + 1)) : Int).toNat - ((ji31) : Int).toNat)) = False := eq_false (Nat.not_lt.2 (by have h_ := c35; have h2_ : ((wrap64 ((ji31) + 1)) : Int) ≤ 2 := of_eq_true (by assumption); simp only [ByteArray.size_append, ByteArray.size_extract, sz_1, sz_2, sz_3, sz_6] at h_; omega))
    revert H; refine pf_ fun c36 H => ?_
    have c36b0 := eq_true c36
    have c36b1 := decide_eq_true c36
    try have c36b2 : (9223372036854775807 < ((t367 ++ (⟨#[32]⟩ : ByteArray)) ++ ((⟨#[43, 45]⟩ : ByteArray).extract ((ji31) : Int).toNat ((wrap64 ((ji31) + 1)) : Int).toNat)).size + 1) = False := eq_false (Nat.not_lt.2 c36)
    have c36b3 : (9223372036854775807 < t367.size + 1 + ((((wrap64 ((ji31) + 1)) : Int).toNat - ((ji31) : Int).toNat)) + 1) = False := eq_false (Nat.not_lt.2 (by have h_ := c36; have h2_ : ((wrap64 ((ji31) + 1)) : Int) ≤ 2 := of_eq_true (by assumption); simp only [ByteArray.size_append, ByteArray.size_extract, sz_1, sz_2, sz_3, sz_6] at h_; omega))
    revert H; refine pf_ fun c37 H => ?_
    have c37b0 := decide_eq_true c37
    have c37b1 : decide (1 < t361.length) = true := decide_eq_true (by omega)
    clear c37
    revert H; refine bn_ ?_; rintro t369 A38 H; try dsimp only at H
    revert H; refine pf_ fun c39 H => ?_
    have c39b0 := eq_true c39
    have c39b1 := decide_eq_true c39
    try have c39b2 : (9223372036854775807 < (((t367 ++ (⟨#[32]⟩ : ByteArray)) ++ ((⟨#[43, 45]⟩ : ByteArray).extract ((ji31) : Int).toNat ((wrap64 ((ji31) + 1)) : Int).toNat)) ++ (⟨#[32]⟩ : ByteArray)).size + t369.size) = False := eq_false (Nat.not_lt.2 c39)
    have c39b3 : (9223372036854775807 < t367.size + 1 + ((((wrap64 ((ji31) + 1)) : Int).toNat - ((ji31) : Int).toNat)) + 1 + t369.size) = False := eq_false (Nat.not_lt.2 (by have h_ := c39; have h2_ : ((wrap64 ((ji31) + 1)) : Int) ≤ 2 := of_eq_true (by assumption); simp only [ByteArray.size_append, ByteArray.size_extract, sz_1, sz_2, sz_3, sz_6] at h_; omega))
    by_cases c40 : 1 < a2
    ·rw [if_pos c40] at H
     have c40b0 := decide_eq_true c40
     clear c40
     revert H; refine pf_ fun c41 H => ?_
     have c41b0 := eq_true c41
     have c41b1 := decide_eq_true c41
     try have c41b2 : (9223372036854775807 < 2 + ((((t367 ++ (⟨#[32]⟩ : ByteArray)) ++ ((⟨#[43, 45]⟩ : ByteArray).extract ((ji31) : Int).toNat ((wrap64 ((ji31) + 1)) : Int).toNat)) ++ (⟨#[32]⟩ : ByteArray)) ++ t369).size) = False := eq_false (Nat.not_lt.2 c41)
     have c41b3 : (9223372036854775807 < 2 + (t367.size + 1 + ((((wrap64 ((ji31) + 1)) : Int).toNat - ((ji31) : Int).toNat)) + 1 + t369.size)) = False := eq_false (Nat.not_lt.2 (by have h_ := c41; have h2_ : ((wrap64 ((ji31) + 1)) : Int) ≤ 2 := of_eq_true (by assumption); simp only [ByteArray.size_append, ByteArray.size_extract, sz_1, sz_2, sz_3, sz_6] at h_; omega))
     by_cases c42 : ((⟨#[40, 32]⟩ : ByteArray) ++ ((((t367 ++ (⟨#[32]⟩ : ByteArray)) ++ ((⟨#[43, 45]⟩ : ByteArray).extract ((ji31) : Int).toNat ((wrap64 ((ji31) + 1)) : Int).toNat)) ++ (⟨#[32]⟩ : ByteArray)) ++ t369)).size + 2 ≤ 9223372036854775807
     case neg => rw [if_neg c42] at H; exact absurd H (by simp)
     refine ?z3_
     let rec p3_ : type_of% ?z3_ := by(
     rw [if_pos c42] at H
     have c42b0 := eq_true c42
     have c42b1 := decide_eq_true c42
     try have c42b2 : (9223372036854775807 < ((⟨#[40, 32]⟩ : ByteArray) ++ ((((t367 ++ (⟨#[32]⟩ : ByteArray)) ++ ((⟨#[43, 45]⟩ : ByteArray).extract ((ji31) : Int).toNat ((wrap64 ((ji31) + 1)) : Int).toNat)) ++ (⟨#[32]⟩ : ByteArray)) ++ t369)).size + 2) = False := eq_false (Nat.not_lt.2 c42)
     have c42b3 : (9223372036854775807 < 2 + (t367.size + 1 + ((((wrap64 ((ji31) + 1)) : Int).toNat - ((ji31) : Int).toNat)) + 1 + t369.size) + 2) = False := eq_false (Nat.not_lt.2 (by have h_ := c42; have h2_ : ((wrap64 ((ji31) + 1)) : Int) ≤ 2 := of_eq_true (by assumption); simp only [ByteArray.size_append, ByteArray.size_extract, sz_1, sz_2, sz_3, sz_6] at h_; omega))
     obtain rfl := Option.some.inj H
     try go_wp2
     replace HO_8 := am_ (Kd.R_drew HO_8.out)
     replace BK360 := am_ (blk_drew BK360.out)
     replace HB := am_ (below_drew1 HB.out)
     obtain ⟨Ao44, co44, eo44⟩ := Kd.R_slice HO_8.out
     (first | subst eo44 | (injection eo44 with f1_ f2_ f3_; have f4_ := f1_.symm; have f5_ := f3_.symm; clear f1_ f2_ f3_; subst f4_; subst f5_))
     have p366 : 0 ≤ (0 : Int) := (by omega)
     have q366 : 0 < (t361.length : Int) := od_
     obtain ⟨ad366, e366, hx366_0⟩ := Kd.at_int (Kd.R_reads' HO_8.out).2.2 0 p366 q366
     cases e366
     have qi366 : (0 < t361.length) = True := eq_true (by omega)
     (try rw [show ((0 : Int)).toNat = 0 from rfl] at hx366_0)
     (try rw [Addr.add_zero'] at hx366_0)
     replace p366 := eq_true p366
     replace q366 := eq_true q366
     have p368 : 0 ≤ (1 : Int) := (by omega)
     have q368 : 1 < (t361.length : Int) := od_
     obtain ⟨ad368, e368, hx368_0⟩ := Kd.at_int (Kd.R_reads' HO_8.out).2.2 1 p368 q368
     obtain rfl : ad366 = ad368 := (by injection e368)
     (try simp only [show (1 : Int).toNat = 1 from rfl, Nat.reduceMul, Nat.reduceEqDiff, Go.Addr.add, ↓reduceIte] at hx368_0)
     have qi368 : (1 < t361.length) = True := eq_true (by omega)
     (try rw [show ((1 : Int)).toNat = 1 from rfl] at hx368_0)
     replace p368 := eq_true p368
     replace q368 := eq_true q368
     refine start_ (n := 23) (S := fun w' => w'.cell? ⟨gb360, 0, none⟩ = some (.int .i64 ((rd_T73 l0 a1).f0)) ∧ w'.cell? ⟨gb360, 1, none⟩ = some (.int .i64 ((rd_T73 l0 a1).f1)) ∧ w'.cell? ad366 = some (.int .i64 (rd t361 0)) ∧ w'.cell? ⟨ad366.block, ad366.off + 1, none⟩ = some (.int .i64 (rd t361 1))) (ds := []) (bb 23 0) (by kernel_rfl) rfl rfl ⟨(blk_cell BK360.out 0).trans rfl, (blk_cell BK360.out 1).trans rfl, hx366_0, hx368_0⟩ (fun hHeld => ?_); refine with_tabW impl_ruleText.tab14 impl_ruleText.bits14 (fun HT_ HW_ => ?_)
     generalize wc.drew = w43 at HO_8 BK360 HB hx366_0 hx368_0 hHeld ⊢
     refine pm_ HT_ 0 71 23 1 ?_
     refine pm_ HT_ 1 72 23 3 ?_
     refine pm_ HT_ 2 73 23 7 ?_
     refine pm_ HT_ 6 77 23 71 ?_
     refine pm_ HT_ 9 80 23 583 ?_
     refine pm_ HT_ 16 87 23 66119 ?_
     refine pm_ HT_ 17 88 23 197191 ?_
     refine pm_ HT_ 18 89 23 459335 ?_
     refine tk_ HT_ HW_ hHeld 3 (some 74) (bb 23 459343) (h := ?_)
     refine tk_ HT_ HW_ hHeld 7 (some 78) (bb 23 459471) (h := ?_)
     refine pm_ HT_ 8 79 23 459727 ?_
     refine tk_ HT_ HW_ hHeld 10 (some 81) (bb 23 460751) (h := ?_)
     refine pm_ HT_ 11 82 23 462799 ?_
     refine pm_ HT_ 12 83 23 466895 ?_
     refine pm_ HT_ 13 84 23 475087 ?_
     refine tk_ HT_ HW_ hHeld 19 (some 90) (bb 23 999375) (h := ?_)
     refine one_ (i := 4) (N := some 75) (bb 23 999391) rfl rfl (one_of HT_.out (by kernel_rfl)) (by decide) (fun K hK => ?_)
     refine goes_ Tryz.func25 (by kernel_rfl) rfl #[.slice (some ad359) l0.length c0, .int .i64 (rd t361 0), .int .i64 1] (by rfl) rfl rfl (by (try simp only [List.map_toArray, List.map_cons, List.map_nil]); first | done | rfl | (simp only [List.length_drop, List.length_take]; rfl)) ?_
     with_reducible refine (ih kj20 (by have := HJ20.out; omega) _ _ l0 (rd t361 0) 1 t367 _ ?side1 ?side2 A29.out (by exact LaidW.step HLw (hb_ HB))).mono ?_
     (case side1 => exact Kd.C_w HR0 HB)
     (case side2 => exact HC0.out)
     rintro e w45 ⟨rfl, hb⟩
     have HS2_ := (hb.cell (World.block_lt_of_cell? _ _ (hHeld.2.2.1))).trans (hHeld.2.2.1)
     have HS3_ := (hb.cell (World.block_lt_of_cell? _ _ (hHeld.2.2.2))).trans (hHeld.2.2.2)
     refine ⟨_, rfl, ?_⟩
     replace HO_8 := am_ (Kd.R_below (Kd.R_p HO_8) hb)
     replace BK360 := am_ (blk_below (kp_ BK360) hb)
     replace HB := am_ (below_step (hb_ HB) hb)
     refine hK.out _ _ ⟨(blk_cell BK360.out 0).trans rfl, (blk_cell BK360.out 1).trans rfl, HS2_, HS3_⟩ (fun hHeld => ?_)
     clear hK K
     refine nm_ (some 75) (h := ?_)
     refine pm_ HT_ 5 76 23 999423 ?_
     refine pm_ HT_ 14 85 23 1015807 ?_
     refine pm_ HT_ 15 86 23 1048575 ?_
     refine one_ (i := 20) (N := some 91) (bb 23 2097151) rfl rfl (one_of HT_.out (by kernel_rfl)) (by decide) (fun K hK => ?_)
     refine goes_ Tryz.func25 (by kernel_rfl) rfl #[.slice (some ad359) l0.length c0, .int .i64 (rd t361 1), .int .i64 2] (by rfl) rfl rfl (by (try simp only [List.map_toArray, List.map_cons, List.map_nil]); first | done | rfl | (simp only [List.length_drop, List.length_take]; rfl)) ?_
     with_reducible refine (ih kj20 (by have := HJ20.out; omega) _ _ l0 (rd t361 1) 2 t369 _ ?side1 ?side2 A38.out (by exact LaidW.step HLw (hb_ HB))).mono ?_
     (case side1 => exact Kd.C_w HR0 HB)
     (case side2 => exact HC0.out)
     rintro e w46 ⟨rfl, hb⟩
     have HS2_ := (hb.cell (World.block_lt_of_cell? _ _ (hHeld.2.2.1))).trans (hHeld.2.2.1)
     have HS3_ := (hb.cell (World.block_lt_of_cell? _ _ (hHeld.2.2.2))).trans (hHeld.2.2.2)
     refine ⟨_, rfl, ?_⟩
     replace HO_8 := am_ (Kd.R_below (Kd.R_p HO_8) hb)
     replace BK360 := am_ (blk_below (kp_ BK360) hb)
     replace HB := am_ (below_step (hb_ HB) hb)
     refine hK.out _ _ ⟨(blk_cell BK360.out 0).trans rfl, (blk_cell BK360.out 1).trans rfl, HS2_, HS3_⟩ (fun hHeld => ?_)
     clear hK K
     refine nm_ (some 91) (h := ?_)
     refine pm_ HT_ 21 92 23 4194303 ?_
     refine pm_ HT_ 22 9 23 8388607 ?_
     refine done_ (done_of HT_.out (by kernel_rfl)) ?_
     try go_wp2
     go_ret
     exact ⟨by first | rfl | (simp [errW_none, errW_some] <;> rfl) | (simp only [← hji31]; first | rfl | (simp [errW_none, errW_some] <;> rfl)) | (simp [*, errW_none, errW_some] <;> rfl), hb_ HB⟩
     )
     exact p3_
    refine ?z4_
    let rec p4_ : type_of% ?z4_ := by(
    rw [if_neg c40] at H
    have c40b0 := decide_eq_false c40
    clear c40
    obtain rfl := Option.some.inj H
    try go_wp2
    replace HO_8 := am_ (Kd.R_drew HO_8.out)
    replace BK360 := am_ (blk_drew BK360.out)
    replace HB := am_ (below_drew1 HB.out)
    obtain ⟨Ao48, co48, eo48⟩ := Kd.R_slice HO_8.out
    (first | subst eo48 | (injection eo48 with f1_ f2_ f3_; have f4_ := f1_.symm; have f5_ := f3_.symm; clear f1_ f2_ f3_; subst f4_; subst f5_))
    have p366 : 0 ≤ (0 : Int) := (by omega)
    have q366 : 0 < (t361.length : Int) := od_
    obtain ⟨ad366, e366, hx366_0⟩ := Kd.at_int (Kd.R_reads' HO_8.out).2.2 0 p366 q366
    cases e366
    have qi366 : (0 < t361.length) = True := eq_true (by omega)
    (try rw [show ((0 : Int)).toNat = 0 from rfl] at hx366_0)
    (try rw [Addr.add_zero'] at hx366_0)
    replace p366 := eq_true p366
    replace q366 := eq_true q366
    have p368 : 0 ≤ (1 : Int) := (by omega)
    have q368 : 1 < (t361.length : Int) := od_
    obtain ⟨ad368, e368, hx368_0⟩ := Kd.at_int (Kd.R_reads' HO_8.out).2.2 1 p368 q368
    obtain rfl : ad366 = ad368 := (by injection e368)
    (try simp only [show (1 : Int).toNat = 1 from rfl, Nat.reduceMul, Nat.reduceEqDiff, Go.Addr.add, ↓reduceIte] at hx368_0)
    have qi368 : (1 < t361.length) = True := eq_true (by omega)
    (try rw [show ((1 : Int)).toNat = 1 from rfl] at hx368_0)
    replace p368 := eq_true p368
    replace q368 := eq_true q368
    refine start_ (n := 23) (S := fun w' => w'.cell? ⟨gb360, 0, none⟩ = some (.int .i64 ((rd_T73 l0 a1).f0)) ∧ w'.cell? ⟨gb360, 1, none⟩ = some (.int .i64 ((rd_T73 l0 a1).f1)) ∧ w'.cell? ad366 = some (.int .i64 (rd t361 0)) ∧ w'.cell? ⟨ad366.block, ad366.off + 1, none⟩ = some (.int .i64 (rd t361 1))) (ds := []) (bb 23 0) (by kernel_rfl) rfl rfl ⟨(blk_cell BK360.out 0).trans rfl, (blk_cell BK360.out 1).trans rfl, hx366_0, hx368_0⟩ (fun hHeld => ?_); refine with_tabW impl_ruleText.tab14 impl_ruleText.bits14 (fun HT_ HW_ => ?_)
    generalize wc.drew = w47 at HO_8 BK360 HB hx366_0 hx368_0 hHeld ⊢
    refine pm_ HT_ 0 71 23 1 ?_
    refine pm_ HT_ 1 72 23 3 ?_
    refine pm_ HT_ 2 73 23 7 ?_
    refine pm_ HT_ 6 77 23 71 ?_
    refine pm_ HT_ 9 80 23 583 ?_
    refine pm_ HT_ 16 87 23 66119 ?_
    refine pm_ HT_ 17 88 23 197191 ?_
    refine pm_ HT_ 18 89 23 459335 ?_
    refine tk_ HT_ HW_ hHeld 3 (some 74) (bb 23 459343) (h := ?_)
    refine tk_ HT_ HW_ hHeld 7 (some 78) (bb 23 459471) (h := ?_)
    refine pm_ HT_ 8 79 23 459727 ?_
    refine tk_ HT_ HW_ hHeld 10 (some 81) (bb 23 460751) (h := ?_)
    refine pm_ HT_ 11 82 23 462799 ?_
    refine pm_ HT_ 12 83 23 466895 ?_
    refine pm_ HT_ 13 84 23 475087 ?_
    refine tk_ HT_ HW_ hHeld 19 (some 90) (bb 23 999375) (h := ?_)
    refine one_ (i := 4) (N := some 75) (bb 23 999391) rfl rfl (one_of HT_.out (by kernel_rfl)) (by decide) (fun K hK => ?_)
    refine goes_ Tryz.func25 (by kernel_rfl) rfl #[.slice (some ad359) l0.length c0, .int .i64 (rd t361 0), .int .i64 1] (by rfl) rfl rfl (by (try simp only [List.map_toArray, List.map_cons, List.map_nil]); first | done | rfl | (simp only [List.length_drop, List.length_take]; rfl)) ?_
    with_reducible refine (ih kj20 (by have := HJ20.out; omega) _ _ l0 (rd t361 0) 1 t367 _ ?side1 ?side2 A29.out (by exact LaidW.step HLw (hb_ HB))).mono ?_
    (case side1 => exact Kd.C_w HR0 HB)
    (case side2 => exact HC0.out)
    rintro e w49 ⟨rfl, hb⟩
    have HS2_ := (hb.cell (World.block_lt_of_cell? _ _ (hHeld.2.2.1))).trans (hHeld.2.2.1)
    have HS3_ := (hb.cell (World.block_lt_of_cell? _ _ (hHeld.2.2.2))).trans (hHeld.2.2.2)
    refine ⟨_, rfl, ?_⟩
    replace HO_8 := am_ (Kd.R_below (Kd.R_p HO_8) hb)
    replace BK360 := am_ (blk_below (kp_ BK360) hb)
    replace HB := am_ (below_step (hb_ HB) hb)
    refine hK.out _ _ ⟨(blk_cell BK360.out 0).trans rfl, (blk_cell BK360.out 1).trans rfl, HS2_, HS3_⟩ (fun hHeld => ?_)
    clear hK K
    refine nm_ (some 75) (h := ?_)
    refine pm_ HT_ 5 76 23 999423 ?_
    refine pm_ HT_ 14 85 23 1015807 ?_
    refine pm_ HT_ 15 86 23 1048575 ?_
    refine one_ (i := 20) (N := some 91) (bb 23 2097151) rfl rfl (one_of HT_.out (by kernel_rfl)) (by decide) (fun K hK => ?_)
    refine goes_ Tryz.func25 (by kernel_rfl) rfl #[.slice (some ad359) l0.length c0, .int .i64 (rd t361 1), .int .i64 2] (by rfl) rfl rfl (by (try simp only [List.map_toArray, List.map_cons, List.map_nil]); first | done | rfl | (simp only [List.length_drop, List.length_take]; rfl)) ?_
    with_reducible refine (ih kj20 (by have := HJ20.out; omega) _ _ l0 (rd t361 1) 2 t369 _ ?side1 ?side2 A38.out (by exact LaidW.step HLw (hb_ HB))).mono ?_
    (case side1 => exact Kd.C_w HR0 HB)
    (case side2 => exact HC0.out)
    rintro e w50 ⟨rfl, hb⟩
    have HS2_ := (hb.cell (World.block_lt_of_cell? _ _ (hHeld.2.2.1))).trans (hHeld.2.2.1)
    have HS3_ := (hb.cell (World.block_lt_of_cell? _ _ (hHeld.2.2.2))).trans (hHeld.2.2.2)
    refine ⟨_, rfl, ?_⟩
    replace HO_8 := am_ (Kd.R_below (Kd.R_p HO_8) hb)
    replace BK360 := am_ (blk_below (kp_ BK360) hb)
    replace HB := am_ (below_step (hb_ HB) hb)
    refine hK.out _ _ ⟨(blk_cell BK360.out 0).trans rfl, (blk_cell BK360.out 1).trans rfl, HS2_, HS3_⟩ (fun hHeld => ?_)
    clear hK K
    refine nm_ (some 91) (h := ?_)
    refine pm_ HT_ 21 92 23 4194303 ?_
    refine pm_ HT_ 22 9 23 8388607 ?_
    refine done_ (done_of HT_.out (by kernel_rfl)) ?_
    try go_wp2
    go_ret
    exact ⟨by first | rfl | (simp [errW_none, errW_some] <;> rfl) | (simp only [← hji31]; first | rfl | (simp [errW_none, errW_some] <;> rfl)) | (simp [*, errW_none, errW_some] <;> rfl), hb_ HB⟩
    )
    exact p4_
   ·rw [if_neg c32] at H
    exact absurd H (by simp)
   )
   exact p2_
  replace c27 := Bool.eq_false_iff.mpr c27
  subst c27
  rw [if_neg (show ¬ (false = true) by decide)] at H
  have HC51 := am_ H
  clear H
  go_upto_if 93 with (fail)
  go_cut [93] (fun v93 wc => ∃ (kq : Nat) (x93_50 : Bool), v93 = .bool x93_50 ∧ Aside0 (impl_ruleText.j1 kq l0 a2 t361 x93_50 ((rd_T73 l0 a1).f0) ((rd_T73 l0 a1).f1) = some r) ∧ Aside0 (kq ≤ kj20) ∧ Aside0 (Kd.R (Kd.int .i64) 3 wc w.heap.size (fun _ => True) v362 t361) ∧ Aside0 (wc.heap[gb360]? = some (.cells #[.int .i64 ((rd_T73 l0 a1).f0), .int .i64 ((rd_T73 l0 a1).f1)] 73 (0, 0))) ∧ Aside0 (Below w.heap.size w wc))
  case first =>
   have H := HC51.out
   clear HC51
   by_cases c52 : ((rd_T73 l0 a1).f0) = 4
   ·rw [if_pos c52] at H
    have c52b0 : (((rd_T73 l0 a1).f0) == 4) = true := beq_iff_eq.mpr c52
    have c52b1 : (((rd_T73 l0 a1).f0) != 4) = false := bne_eq_false_iff_eq.mpr c52
    clear c52
    (first | rw [c52b0] | (simp only [i64_w, i32_w]; rw [c52b0]) | skip)
    have H' := am_ H
    clear H
    go_wp2
    go_meet
    case rel => exact ⟨_, ((((rd_T73 l0 a1).f0) == 4)), sr_, H', ⟨by have := HJ20.out; first | omega | exact Nat.le_refl _⟩, ⟨Kd.R_p HO_8⟩, ⟨kp_ BK360⟩, ⟨hb_ HB⟩⟩
   rw [if_neg c52] at H
   have c52b0 : (((rd_T73 l0 a1).f0) == 4) = false := beq_eq_false_iff_ne.mpr c52
   have c52b1 : (((rd_T73 l0 a1).f0) != 4) = true := bne_iff_ne.mpr c52
   (first | rw [c52b0] | (simp only [i64_w, i32_w]; rw [c52b0]) | skip)
   have H' := am_ H
   clear H
   go_wp2
   go_meet
   case rel => exact ⟨_, ((((rd_T73 l0 a1).f0) == 5)), sr_, H', ⟨by have := HJ20.out; first | omega | exact Nat.le_refl _⟩, ⟨Kd.R_p HO_8⟩, ⟨kp_ BK360⟩, ⟨hb_ HB⟩⟩
  clear HC51
  obtain ⟨kq, x93_50, rfl, HA, HJ50, HO_8, BK360, HB⟩ := hcut
  cases kq with
  | zero => exact absurd HA.out (by simp [impl_ruleText.j1])
  | succ kj50 => ?_
  have H := HA.out
  clear HA
  simp only [impl_ruleText.j1] at H
  by_cases c53 : x93_50 = true
  ·subst c53
   rw [if_pos rfl] at H
   revert H; refine pf_ fun c54 H => ?_
   have c54b0 := decide_eq_true c54
   have c54b1 : decide (0 < t361.length) = true := decide_eq_true (by omega)
   clear c54
   revert H; refine bn_ ?_; rintro t371 A55 H; try dsimp only at H
   by_cases c56 : t371.size + 1 ≤ 9223372036854775807
   case neg => rw [if_neg c56] at H; exact absurd H (by simp)
   refine ?z5_
   let rec p5_ : type_of% ?z5_ := by(
   rw [if_pos c56] at H
   have c56b0 := eq_true c56
   have c56b1 := decide_eq_true c56
   try have c56b2 : (9223372036854775807 < t371.size + 1) = False := eq_false (Nat.not_lt.2 c56)
   obtain ⟨ji57, hji57⟩ : ∃ j_ : Int, (wrap64 (((rd_T73 l0 a1).f0) - 4)) = j_ := ⟨_, rfl⟩
   first | rw [hji57] at H | simp only [hji57] at H
   (try rw [hji57] at A55)
   have hji57w : (IntKind.i64.wrap (((rd_T73 l0 a1).f0) - 4)) = ji57 := (i64_w _).trans hji57
   by_cases c58 : 0 ≤ (ji57)
   ·rw [if_pos c58] at H
    have c58b0 := eq_true c58
    have c58b1 := decide_eq_true c58
    clear c58
    revert H; refine pf_ fun c59 H => ?_
    have c59b0 := eq_true c59
    have c59b1 := decide_eq_true c59
    revert H; refine pf_ fun c60 H => ?_
    have c60b0 := eq_true c60
    have c60b1 := decide_eq_true c60
    revert H; refine pf_ fun c61 H => ?_
    have c61b0 := eq_true c61
    have c61b1 := decide_eq_true c61
    try have c61b2 : (9223372036854775807 < (t371 ++ (⟨#[32]⟩ : ByteArray)).size + ((⟨#[42, 47]⟩ : ByteArray).extract ((ji57) : Int).toNat ((wrap64 ((ji57) + 1)) : Int).toNat).size) = False := eq_false (Nat.not_lt.2 c61)
    have c61b3 : (9223372036854775807 < t371.size + 1 + (((wrap64 ((ji57) + 1)) : Int).toNat - ((ji57) : Int).toNat)) = False := eq_false (Nat.not_lt.2 (by have h_ := c61; have h2_ : ((wrap64 ((ji57) + 1)) : Int) ≤ 2 := of_eq_true (by assumption); simp only [ByteArray.size_append, ByteArray.size_extract, sz_1, sz_2, sz_3, sz_6] at h_; omega))
    revert H; refine pf_ fun c62 H => ?_
    have c62b0 := eq_true c62
    have c62b1 := decide_eq_true c62
    try have c62b2 : (9223372036854775807 < ((t371 ++ (⟨#[32]⟩ : ByteArray)) ++ ((⟨#[42, 47]⟩ : ByteArray).extract ((ji57) : Int).toNat ((wrap64 ((ji57) + 1)) : Int).toNat)).size + 1) = False := eq_false (Nat.not_lt.2 c62)
    have c62b3 : (9223372036854775807 < t371.size + 1 + ((((wrap64 ((ji57) + 1)) : Int).toNat - ((ji57) : Int).toNat)) + 1) = False := eq_false (Nat.not_lt.2 (by have h_ := c62; have h2_ : ((wrap64 ((ji57) + 1)) : Int) ≤ 2 := of_eq_true (by assumption); simp only [ByteArray.size_append, ByteArray.size_extract, sz_1, sz_2, sz_3, sz_6] at h_; omega))
    revert H; refine pf_ fun c63 H => ?_
    have c63b0 := decide_eq_true c63
    have c63b1 : decide (1 < t361.length) = true := decide_eq_true (by omega)
    clear c63
    revert H; refine bn_ ?_; rintro t373 A64 H; try dsimp only at H
    revert H; refine pf_ fun c65 H => ?_
    have c65b0 := eq_true c65
    have c65b1 := decide_eq_true c65
    try have c65b2 : (9223372036854775807 < (((t371 ++ (⟨#[32]⟩ : ByteArray)) ++ ((⟨#[42, 47]⟩ : ByteArray).extract ((ji57) : Int).toNat ((wrap64 ((ji57) + 1)) : Int).toNat)) ++ (⟨#[32]⟩ : ByteArray)).size + t373.size) = False := eq_false (Nat.not_lt.2 c65)
    have c65b3 : (9223372036854775807 < t371.size + 1 + ((((wrap64 ((ji57) + 1)) : Int).toNat - ((ji57) : Int).toNat)) + 1 + t373.size) = False := eq_false (Nat.not_lt.2 (by have h_ := c65; have h2_ : ((wrap64 ((ji57) + 1)) : Int) ≤ 2 := of_eq_true (by assumption); simp only [ByteArray.size_append, ByteArray.size_extract, sz_1, sz_2, sz_3, sz_6] at h_; omega))
    by_cases c66 : 2 < a2
    ·rw [if_pos c66] at H
     have c66b0 := decide_eq_true c66
     clear c66
     revert H; refine pf_ fun c67 H => ?_
     have c67b0 := eq_true c67
     have c67b1 := decide_eq_true c67
     try have c67b2 : (9223372036854775807 < 2 + ((((t371 ++ (⟨#[32]⟩ : ByteArray)) ++ ((⟨#[42, 47]⟩ : ByteArray).extract ((ji57) : Int).toNat ((wrap64 ((ji57) + 1)) : Int).toNat)) ++ (⟨#[32]⟩ : ByteArray)) ++ t373).size) = False := eq_false (Nat.not_lt.2 c67)
     have c67b3 : (9223372036854775807 < 2 + (t371.size + 1 + ((((wrap64 ((ji57) + 1)) : Int).toNat - ((ji57) : Int).toNat)) + 1 + t373.size)) = False := eq_false (Nat.not_lt.2 (by have h_ := c67; have h2_ : ((wrap64 ((ji57) + 1)) : Int) ≤ 2 := of_eq_true (by assumption); simp only [ByteArray.size_append, ByteArray.size_extract, sz_1, sz_2, sz_3, sz_6] at h_; omega))
     by_cases c68 : ((⟨#[40, 32]⟩ : ByteArray) ++ ((((t371 ++ (⟨#[32]⟩ : ByteArray)) ++ ((⟨#[42, 47]⟩ : ByteArray).extract ((ji57) : Int).toNat ((wrap64 ((ji57) + 1)) : Int).toNat)) ++ (⟨#[32]⟩ : ByteArray)) ++ t373)).size + 2 ≤ 9223372036854775807
     case neg => rw [if_neg c68] at H; exact absurd H (by simp)
     refine ?z6_
     let rec p6_ : type_of% ?z6_ := by(
     rw [if_pos c68] at H
     have c68b0 := eq_true c68
     have c68b1 := decide_eq_true c68
     try have c68b2 : (9223372036854775807 < ((⟨#[40, 32]⟩ : ByteArray) ++ ((((t371 ++ (⟨#[32]⟩ : ByteArray)) ++ ((⟨#[42, 47]⟩ : ByteArray).extract ((ji57) : Int).toNat ((wrap64 ((ji57) + 1)) : Int).toNat)) ++ (⟨#[32]⟩ : ByteArray)) ++ t373)).size + 2) = False := eq_false (Nat.not_lt.2 c68)
     have c68b3 : (9223372036854775807 < 2 + (t371.size + 1 + ((((wrap64 ((ji57) + 1)) : Int).toNat - ((ji57) : Int).toNat)) + 1 + t373.size) + 2) = False := eq_false (Nat.not_lt.2 (by have h_ := c68; have h2_ : ((wrap64 ((ji57) + 1)) : Int) ≤ 2 := of_eq_true (by assumption); simp only [ByteArray.size_append, ByteArray.size_extract, sz_1, sz_2, sz_3, sz_6] at h_; omega))
     obtain rfl := Option.some.inj H
     try go_wp2
     replace HO_8 := am_ (Kd.R_drew HO_8.out)
     replace BK360 := am_ (blk_drew BK360.out)
     replace HB := am_ (below_drew1 HB.out)
     obtain ⟨Ao70, co70, eo70⟩ := Kd.R_slice HO_8.out
     (first | subst eo70 | (injection eo70 with f1_ f2_ f3_; have f4_ := f1_.symm; have f5_ := f3_.symm; clear f1_ f2_ f3_; subst f4_; subst f5_))
     have p370 : 0 ≤ (0 : Int) := (by omega)
     have q370 : 0 < (t361.length : Int) := od_
     obtain ⟨ad370, e370, hx370_0⟩ := Kd.at_int (Kd.R_reads' HO_8.out).2.2 0 p370 q370
     cases e370
     have qi370 : (0 < t361.length) = True := eq_true (by omega)
     (try rw [show ((0 : Int)).toNat = 0 from rfl] at hx370_0)
     (try rw [Addr.add_zero'] at hx370_0)
     replace p370 := eq_true p370
     replace q370 := eq_true q370
     have p372 : 0 ≤ (1 : Int) := (by omega)
     have q372 : 1 < (t361.length : Int) := od_
     obtain ⟨ad372, e372, hx372_0⟩ := Kd.at_int (Kd.R_reads' HO_8.out).2.2 1 p372 q372
     obtain rfl : ad370 = ad372 := (by injection e372)
     (try simp only [show (1 : Int).toNat = 1 from rfl, Nat.reduceMul, Nat.reduceEqDiff, Go.Addr.add, ↓reduceIte] at hx372_0)
     have qi372 : (1 < t361.length) = True := eq_true (by omega)
     (try rw [show ((1 : Int)).toNat = 1 from rfl] at hx372_0)
     replace p372 := eq_true p372
     replace q372 := eq_true q372
     refine start_ (n := 23) (S := fun w' => w'.cell? ⟨gb360, 0, none⟩ = some (.int .i64 ((rd_T73 l0 a1).f0)) ∧ w'.cell? ⟨gb360, 1, none⟩ = some (.int .i64 ((rd_T73 l0 a1).f1)) ∧ w'.cell? ad370 = some (.int .i64 (rd t361 0)) ∧ w'.cell? ⟨ad370.block, ad370.off + 1, none⟩ = some (.int .i64 (rd t361 1))) (ds := []) (bb 23 0) (by kernel_rfl) rfl rfl ⟨(blk_cell BK360.out 0).trans rfl, (blk_cell BK360.out 1).trans rfl, hx370_0, hx372_0⟩ (fun hHeld => ?_); refine with_tabW impl_ruleText.tab18 impl_ruleText.bits18 (fun HT_ HW_ => ?_)
     generalize wc.drew = w69 at HO_8 BK360 HB hx370_0 hx372_0 hHeld ⊢
     refine pm_ HT_ 0 96 23 1 ?_
     refine pm_ HT_ 1 97 23 3 ?_
     refine pm_ HT_ 2 98 23 7 ?_
     refine pm_ HT_ 6 102 23 71 ?_
     refine pm_ HT_ 9 105 23 583 ?_
     refine pm_ HT_ 16 112 23 66119 ?_
     refine pm_ HT_ 17 113 23 197191 ?_
     refine pm_ HT_ 18 114 23 459335 ?_
     refine tk_ HT_ HW_ hHeld 3 (some 99) (bb 23 459343) (h := ?_)
     refine tk_ HT_ HW_ hHeld 7 (some 103) (bb 23 459471) (h := ?_)
     refine pm_ HT_ 8 104 23 459727 ?_
     refine tk_ HT_ HW_ hHeld 10 (some 106) (bb 23 460751) (h := ?_)
     refine pm_ HT_ 11 107 23 462799 ?_
     refine pm_ HT_ 12 108 23 466895 ?_
     refine pm_ HT_ 13 109 23 475087 ?_
     refine tk_ HT_ HW_ hHeld 19 (some 115) (bb 23 999375) (h := ?_)
     refine one_ (i := 4) (N := some 100) (bb 23 999391) rfl rfl (one_of HT_.out (by kernel_rfl)) (by decide) (fun K hK => ?_)
     refine goes_ Tryz.func25 (by kernel_rfl) rfl #[.slice (some ad359) l0.length c0, .int .i64 (rd t361 0), .int .i64 2] (by rfl) rfl rfl (by (try simp only [List.map_toArray, List.map_cons, List.map_nil]); first | done | rfl | (simp only [List.length_drop, List.length_take]; rfl)) ?_
     with_reducible refine (ih kj50 (by have := HJ20.out; have := HJ50.out; omega) _ _ l0 (rd t361 0) 2 t371 _ ?side1 ?side2 A55.out (by exact LaidW.step HLw (hb_ HB))).mono ?_
     (case side1 => exact Kd.C_w HR0 HB)
     (case side2 => exact HC0.out)
     rintro e w71 ⟨rfl, hb⟩
     have HS2_ := (hb.cell (World.block_lt_of_cell? _ _ (hHeld.2.2.1))).trans (hHeld.2.2.1)
     have HS3_ := (hb.cell (World.block_lt_of_cell? _ _ (hHeld.2.2.2))).trans (hHeld.2.2.2)
     refine ⟨_, rfl, ?_⟩
     replace HO_8 := am_ (Kd.R_below (Kd.R_p HO_8) hb)
     replace BK360 := am_ (blk_below (kp_ BK360) hb)
     replace HB := am_ (below_step (hb_ HB) hb)
     refine hK.out _ _ ⟨(blk_cell BK360.out 0).trans rfl, (blk_cell BK360.out 1).trans rfl, HS2_, HS3_⟩ (fun hHeld => ?_)
     clear hK K
     refine nm_ (some 100) (h := ?_)
     refine pm_ HT_ 5 101 23 999423 ?_
     refine pm_ HT_ 14 110 23 1015807 ?_
     refine pm_ HT_ 15 111 23 1048575 ?_
     refine one_ (i := 20) (N := some 116) (bb 23 2097151) rfl rfl (one_of HT_.out (by kernel_rfl)) (by decide) (fun K hK => ?_)
     refine goes_ Tryz.func25 (by kernel_rfl) rfl #[.slice (some ad359) l0.length c0, .int .i64 (rd t361 1), .int .i64 3] (by rfl) rfl rfl (by (try simp only [List.map_toArray, List.map_cons, List.map_nil]); first | done | rfl | (simp only [List.length_drop, List.length_take]; rfl)) ?_
     with_reducible refine (ih kj50 (by have := HJ20.out; have := HJ50.out; omega) _ _ l0 (rd t361 1) 3 t373 _ ?side1 ?side2 A64.out (by exact LaidW.step HLw (hb_ HB))).mono ?_
     (case side1 => exact Kd.C_w HR0 HB)
     (case side2 => exact HC0.out)
     rintro e w72 ⟨rfl, hb⟩
     have HS2_ := (hb.cell (World.block_lt_of_cell? _ _ (hHeld.2.2.1))).trans (hHeld.2.2.1)
     have HS3_ := (hb.cell (World.block_lt_of_cell? _ _ (hHeld.2.2.2))).trans (hHeld.2.2.2)
     refine ⟨_, rfl, ?_⟩
     replace HO_8 := am_ (Kd.R_below (Kd.R_p HO_8) hb)
     replace BK360 := am_ (blk_below (kp_ BK360) hb)
     replace HB := am_ (below_step (hb_ HB) hb)
     refine hK.out _ _ ⟨(blk_cell BK360.out 0).trans rfl, (blk_cell BK360.out 1).trans rfl, HS2_, HS3_⟩ (fun hHeld => ?_)
     clear hK K
     refine nm_ (some 116) (h := ?_)
     refine pm_ HT_ 21 117 23 4194303 ?_
     refine pm_ HT_ 22 9 23 8388607 ?_
     refine done_ (done_of HT_.out (by kernel_rfl)) ?_
     try go_wp2
     go_ret
     exact ⟨by first | rfl | (simp [errW_none, errW_some] <;> rfl) | (simp only [← hji57]; first | rfl | (simp [errW_none, errW_some] <;> rfl)) | (simp [*, errW_none, errW_some] <;> rfl), hb_ HB⟩
     )
     exact p6_
    refine ?z7_
    let rec p7_ : type_of% ?z7_ := by(
    rw [if_neg c66] at H
    have c66b0 := decide_eq_false c66
    clear c66
    obtain rfl := Option.some.inj H
    try go_wp2
    replace HO_8 := am_ (Kd.R_drew HO_8.out)
    replace BK360 := am_ (blk_drew BK360.out)
    replace HB := am_ (below_drew1 HB.out)
    obtain ⟨Ao74, co74, eo74⟩ := Kd.R_slice HO_8.out
    (first | subst eo74 | (injection eo74 with f1_ f2_ f3_; have f4_ := f1_.symm; have f5_ := f3_.symm; clear f1_ f2_ f3_; subst f4_; subst f5_))
    have p370 : 0 ≤ (0 : Int) := (by omega)
    have q370 : 0 < (t361.length : Int) := od_
    obtain ⟨ad370, e370, hx370_0⟩ := Kd.at_int (Kd.R_reads' HO_8.out).2.2 0 p370 q370
    cases e370
    have qi370 : (0 < t361.length) = True := eq_true (by omega)
    (try rw [show ((0 : Int)).toNat = 0 from rfl] at hx370_0)
    (try rw [Addr.add_zero'] at hx370_0)
    replace p370 := eq_true p370
    replace q370 := eq_true q370
    have p372 : 0 ≤ (1 : Int) := (by omega)
    have q372 : 1 < (t361.length : Int) := od_
    obtain ⟨ad372, e372, hx372_0⟩ := Kd.at_int (Kd.R_reads' HO_8.out).2.2 1 p372 q372
    obtain rfl : ad370 = ad372 := (by injection e372)
    (try simp only [show (1 : Int).toNat = 1 from rfl, Nat.reduceMul, Nat.reduceEqDiff, Go.Addr.add, ↓reduceIte] at hx372_0)
    have qi372 : (1 < t361.length) = True := eq_true (by omega)
    (try rw [show ((1 : Int)).toNat = 1 from rfl] at hx372_0)
    replace p372 := eq_true p372
    replace q372 := eq_true q372
    refine start_ (n := 23) (S := fun w' => w'.cell? ⟨gb360, 0, none⟩ = some (.int .i64 ((rd_T73 l0 a1).f0)) ∧ w'.cell? ⟨gb360, 1, none⟩ = some (.int .i64 ((rd_T73 l0 a1).f1)) ∧ w'.cell? ad370 = some (.int .i64 (rd t361 0)) ∧ w'.cell? ⟨ad370.block, ad370.off + 1, none⟩ = some (.int .i64 (rd t361 1))) (ds := []) (bb 23 0) (by kernel_rfl) rfl rfl ⟨(blk_cell BK360.out 0).trans rfl, (blk_cell BK360.out 1).trans rfl, hx370_0, hx372_0⟩ (fun hHeld => ?_); refine with_tabW impl_ruleText.tab18 impl_ruleText.bits18 (fun HT_ HW_ => ?_)
    generalize wc.drew = w73 at HO_8 BK360 HB hx370_0 hx372_0 hHeld ⊢
    refine pm_ HT_ 0 96 23 1 ?_
    refine pm_ HT_ 1 97 23 3 ?_
    refine pm_ HT_ 2 98 23 7 ?_
    refine pm_ HT_ 6 102 23 71 ?_
    refine pm_ HT_ 9 105 23 583 ?_
    refine pm_ HT_ 16 112 23 66119 ?_
    refine pm_ HT_ 17 113 23 197191 ?_
    refine pm_ HT_ 18 114 23 459335 ?_
    refine tk_ HT_ HW_ hHeld 3 (some 99) (bb 23 459343) (h := ?_)
    refine tk_ HT_ HW_ hHeld 7 (some 103) (bb 23 459471) (h := ?_)
    refine pm_ HT_ 8 104 23 459727 ?_
    refine tk_ HT_ HW_ hHeld 10 (some 106) (bb 23 460751) (h := ?_)
    refine pm_ HT_ 11 107 23 462799 ?_
    refine pm_ HT_ 12 108 23 466895 ?_
    refine pm_ HT_ 13 109 23 475087 ?_
    refine tk_ HT_ HW_ hHeld 19 (some 115) (bb 23 999375) (h := ?_)
    refine one_ (i := 4) (N := some 100) (bb 23 999391) rfl rfl (one_of HT_.out (by kernel_rfl)) (by decide) (fun K hK => ?_)
    refine goes_ Tryz.func25 (by kernel_rfl) rfl #[.slice (some ad359) l0.length c0, .int .i64 (rd t361 0), .int .i64 2] (by rfl) rfl rfl (by (try simp only [List.map_toArray, List.map_cons, List.map_nil]); first | done | rfl | (simp only [List.length_drop, List.length_take]; rfl)) ?_
    with_reducible refine (ih kj50 (by have := HJ20.out; have := HJ50.out; omega) _ _ l0 (rd t361 0) 2 t371 _ ?side1 ?side2 A55.out (by exact LaidW.step HLw (hb_ HB))).mono ?_
    (case side1 => exact Kd.C_w HR0 HB)
    (case side2 => exact HC0.out)
    rintro e w75 ⟨rfl, hb⟩
    have HS2_ := (hb.cell (World.block_lt_of_cell? _ _ (hHeld.2.2.1))).trans (hHeld.2.2.1)
    have HS3_ := (hb.cell (World.block_lt_of_cell? _ _ (hHeld.2.2.2))).trans (hHeld.2.2.2)
    refine ⟨_, rfl, ?_⟩
    replace HO_8 := am_ (Kd.R_below (Kd.R_p HO_8) hb)
    replace BK360 := am_ (blk_below (kp_ BK360) hb)
    replace HB := am_ (below_step (hb_ HB) hb)
    refine hK.out _ _ ⟨(blk_cell BK360.out 0).trans rfl, (blk_cell BK360.out 1).trans rfl, HS2_, HS3_⟩ (fun hHeld => ?_)
    clear hK K
    refine nm_ (some 100) (h := ?_)
    refine pm_ HT_ 5 101 23 999423 ?_
    refine pm_ HT_ 14 110 23 1015807 ?_
    refine pm_ HT_ 15 111 23 1048575 ?_
    refine one_ (i := 20) (N := some 116) (bb 23 2097151) rfl rfl (one_of HT_.out (by kernel_rfl)) (by decide) (fun K hK => ?_)
    refine goes_ Tryz.func25 (by kernel_rfl) rfl #[.slice (some ad359) l0.length c0, .int .i64 (rd t361 1), .int .i64 3] (by rfl) rfl rfl (by (try simp only [List.map_toArray, List.map_cons, List.map_nil]); first | done | rfl | (simp only [List.length_drop, List.length_take]; rfl)) ?_
    with_reducible refine (ih kj50 (by have := HJ20.out; have := HJ50.out; omega) _ _ l0 (rd t361 1) 3 t373 _ ?side1 ?side2 A64.out (by exact LaidW.step HLw (hb_ HB))).mono ?_
    (case side1 => exact Kd.C_w HR0 HB)
    (case side2 => exact HC0.out)
    rintro e w76 ⟨rfl, hb⟩
    have HS2_ := (hb.cell (World.block_lt_of_cell? _ _ (hHeld.2.2.1))).trans (hHeld.2.2.1)
    have HS3_ := (hb.cell (World.block_lt_of_cell? _ _ (hHeld.2.2.2))).trans (hHeld.2.2.2)
    refine ⟨_, rfl, ?_⟩
    replace HO_8 := am_ (Kd.R_below (Kd.R_p HO_8) hb)
    replace BK360 := am_ (blk_below (kp_ BK360) hb)
    replace HB := am_ (below_step (hb_ HB) hb)
    refine hK.out _ _ ⟨(blk_cell BK360.out 0).trans rfl, (blk_cell BK360.out 1).trans rfl, HS2_, HS3_⟩ (fun hHeld => ?_)
    clear hK K
    refine nm_ (some 116) (h := ?_)
    refine pm_ HT_ 21 117 23 4194303 ?_
    refine pm_ HT_ 22 9 23 8388607 ?_
    refine done_ (done_of HT_.out (by kernel_rfl)) ?_
    try go_wp2
    go_ret
    exact ⟨by first | rfl | (simp [errW_none, errW_some] <;> rfl) | (simp only [← hji57]; first | rfl | (simp [errW_none, errW_some] <;> rfl)) | (simp [*, errW_none, errW_some] <;> rfl), hb_ HB⟩
    )
    exact p7_
   ·rw [if_neg c58] at H
    exact absurd H (by simp)
   )
   exact p5_
  replace c53 := Bool.eq_false_iff.mpr c53
  subst c53
  rw [if_neg (show ¬ (false = true) by decide)] at H
  by_cases c77 : 0 < (t361.length : Int)
  case neg => rw [if_neg c77] at H; exact absurd H (by simp)
  refine ?z8_
  let rec p8_ : type_of% ?z8_ := by(
  rw [if_pos c77] at H
  have c77b0 := decide_eq_true c77
  have c77b1 : decide (0 < t361.length) = true := decide_eq_true (by omega)
  clear c77
  revert H; refine bn_ ?_; rintro t375 A78 H; try dsimp only at H
  by_cases c79 : 3 + t375.size ≤ 9223372036854775807
  ·rw [if_pos c79] at H
   have c79b0 := eq_true c79
   have c79b1 := decide_eq_true c79
   try have c79b2 : (9223372036854775807 < 3 + t375.size) = False := eq_false (Nat.not_lt.2 c79)
   revert H; refine pf_ fun c80 H => ?_
   have c80b0 := eq_true c80
   have c80b1 := decide_eq_true c80
   try have c80b2 : (9223372036854775807 < ((⟨#[105, 102, 32]⟩ : ByteArray) ++ t375).size + 1) = False := eq_false (Nat.not_lt.2 c80)
   have c80b3 : (9223372036854775807 < 3 + t375.size + 1) = False := eq_false (Nat.not_lt.2 (by have h_ := c80; simp only [ByteArray.size_append] at h_; exact h_))
   obtain ⟨ji81, hji81⟩ : ∃ j_ : Int, (wrap64 (((rd_T73 l0 a1).f0) - 6)) = j_ := ⟨_, rfl⟩
   first | rw [hji81] at H | simp only [hji81] at H
   (try rw [hji81] at A78)
   have hji81w : (IntKind.i64.wrap (((rd_T73 l0 a1).f0) - 6)) = ji81 := (i64_w _).trans hji81
   revert H; refine pf_ fun c82 H => ?_
   have c82b0 := eq_true c82
   have c82b1 := decide_eq_true c82
   clear c82
   revert H; refine pf_ fun c83 H => ?_
   have c83b0 := eq_true c83
   have c83b1 := decide_eq_true c83
   by_cases c84 : (wrap64 ((ji81) + 1)) ≤ 3
   case neg => rw [if_neg c84] at H; exact absurd H (by simp)
   refine ?z9_
   let rec p9_ : type_of% ?z9_ := by(
   rw [if_pos c84] at H
   have c84b0 := eq_true c84
   have c84b1 := decide_eq_true c84
   by_cases c85 : (((⟨#[105, 102, 32]⟩ : ByteArray) ++ t375) ++ (⟨#[32]⟩ : ByteArray)).size + ((⟨#[60, 61, 62]⟩ : ByteArray).extract ((ji81) : Int).toNat ((wrap64 ((ji81) + 1)) : Int).toNat).size ≤ 9223372036854775807
   ·rw [if_pos c85] at H
    have c85b0 := eq_true c85
    have c85b1 := decide_eq_true c85
    try have c85b2 : (9223372036854775807 < (((⟨#[105, 102, 32]⟩ : ByteArray) ++ t375) ++ (⟨#[32]⟩ : ByteArray)).size + ((⟨#[60, 61, 62]⟩ : ByteArray).extract ((ji81) : Int).toNat ((wrap64 ((ji81) + 1)) : Int).toNat).size) = False := eq_false (Nat.not_lt.2 c85)
    have c85b3 : (9223372036854775807 < 3 + t375.size + 1 + (((wrap64 ((ji81) + 1)) : Int).toNat - ((ji81) : Int).toNat)) = False := eq_false (Nat.not_lt.2 (by have h_ := c85; have h2_ : ((wrap64 ((ji81) + 1)) : Int) ≤ 3 := of_eq_true (by assumption); simp only [ByteArray.size_append, ByteArray.size_extract, sz_1, sz_2, sz_3, sz_6] at h_; omega))
    revert H; refine pf_ fun c86 H => ?_
    have c86b0 := eq_true c86
    have c86b1 := decide_eq_true c86
    try have c86b2 : (9223372036854775807 < ((((⟨#[105, 102, 32]⟩ : ByteArray) ++ t375) ++ (⟨#[32]⟩ : ByteArray)) ++ ((⟨#[60, 61, 62]⟩ : ByteArray).extract ((ji81) : Int).toNat ((wrap64 ((ji81) + 1)) : Int).toNat)).size + 1) = False := eq_false (Nat.not_lt.2 c86)
    have c86b3 : (9223372036854775807 < 3 + t375.size + 1 + ((((wrap64 ((ji81) + 1)) : Int).toNat - ((ji81) : Int).toNat)) + 1) = False := eq_false (Nat.not_lt.2 (by have h_ := c86; have h2_ : ((wrap64 ((ji81) + 1)) : Int) ≤ 3 := of_eq_true (by assumption); simp only [ByteArray.size_append, ByteArray.size_extract, sz_1, sz_2, sz_3, sz_6] at h_; omega))
    revert H; refine pf_ fun c87 H => ?_
    have c87b0 := decide_eq_true c87
    have c87b1 : decide (1 < t361.length) = true := decide_eq_true (by omega)
    clear c87
    revert H; refine bn_ ?_; rintro t377 A88 H; try dsimp only at H
    revert H; refine pf_ fun c89 H => ?_
    have c89b0 := eq_true c89
    have c89b1 := decide_eq_true c89
    try have c89b2 : (9223372036854775807 < (((((⟨#[105, 102, 32]⟩ : ByteArray) ++ t375) ++ (⟨#[32]⟩ : ByteArray)) ++ ((⟨#[60, 61, 62]⟩ : ByteArray).extract ((ji81) : Int).toNat ((wrap64 ((ji81) + 1)) : Int).toNat)) ++ (⟨#[32]⟩ : ByteArray)).size + t377.size) = False := eq_false (Nat.not_lt.2 c89)
    have c89b3 : (9223372036854775807 < 3 + t375.size + 1 + ((((wrap64 ((ji81) + 1)) : Int).toNat - ((ji81) : Int).toNat)) + 1 + t377.size) = False := eq_false (Nat.not_lt.2 (by have h_ := c89; have h2_ : ((wrap64 ((ji81) + 1)) : Int) ≤ 3 := of_eq_true (by assumption); simp only [ByteArray.size_append, ByteArray.size_extract, sz_1, sz_2, sz_3, sz_6] at h_; omega))
    revert H; refine pf_ fun c90 H => ?_
    have c90b0 := eq_true c90
    have c90b1 := decide_eq_true c90
    try have c90b2 : (9223372036854775807 < ((((((⟨#[105, 102, 32]⟩ : ByteArray) ++ t375) ++ (⟨#[32]⟩ : ByteArray)) ++ ((⟨#[60, 61, 62]⟩ : ByteArray).extract ((ji81) : Int).toNat ((wrap64 ((ji81) + 1)) : Int).toNat)) ++ (⟨#[32]⟩ : ByteArray)) ++ t377).size + 6) = False := eq_false (Nat.not_lt.2 c90)
    have c90b3 : (9223372036854775807 < 3 + t375.size + 1 + ((((wrap64 ((ji81) + 1)) : Int).toNat - ((ji81) : Int).toNat)) + 1 + t377.size + 6) = False := eq_false (Nat.not_lt.2 (by have h_ := c90; have h2_ : ((wrap64 ((ji81) + 1)) : Int) ≤ 3 := of_eq_true (by assumption); simp only [ByteArray.size_append, ByteArray.size_extract, sz_1, sz_2, sz_3, sz_6] at h_; omega))
    revert H; refine pf_ fun c91 H => ?_
    have c91b0 := decide_eq_true c91
    have c91b1 : decide (2 < t361.length) = true := decide_eq_true (by omega)
    clear c91
    revert H; refine bn_ ?_; rintro t379 A92 H; try dsimp only at H
    by_cases c93 : (((((((⟨#[105, 102, 32]⟩ : ByteArray) ++ t375) ++ (⟨#[32]⟩ : ByteArray)) ++ ((⟨#[60, 61, 62]⟩ : ByteArray).extract ((ji81) : Int).toNat ((wrap64 ((ji81) + 1)) : Int).toNat)) ++ (⟨#[32]⟩ : ByteArray)) ++ t377) ++ (⟨#[32, 116, 104, 101, 110, 32]⟩ : ByteArray)).size + t379.size ≤ 9223372036854775807
    case neg => rw [if_neg c93] at H; exact absurd H (by simp)
    refine ?z10_
    let rec p10_ : type_of% ?z10_ := by(
    rw [if_pos c93] at H
    have c93b0 := eq_true c93
    have c93b1 := decide_eq_true c93
    try have c93b2 : (9223372036854775807 < (((((((⟨#[105, 102, 32]⟩ : ByteArray) ++ t375) ++ (⟨#[32]⟩ : ByteArray)) ++ ((⟨#[60, 61, 62]⟩ : ByteArray).extract ((ji81) : Int).toNat ((wrap64 ((ji81) + 1)) : Int).toNat)) ++ (⟨#[32]⟩ : ByteArray)) ++ t377) ++ (⟨#[32, 116, 104, 101, 110, 32]⟩ : ByteArray)).size + t379.size) = False := eq_false (Nat.not_lt.2 c93)
    have c93b3 : (9223372036854775807 < 3 + t375.size + 1 + ((((wrap64 ((ji81) + 1)) : Int).toNat - ((ji81) : Int).toNat)) + 1 + t377.size + 6 + t379.size) = False := eq_false (Nat.not_lt.2 (by have h_ := c93; have h2_ : ((wrap64 ((ji81) + 1)) : Int) ≤ 3 := of_eq_true (by assumption); simp only [ByteArray.size_append, ByteArray.size_extract, sz_1, sz_2, sz_3, sz_6] at h_; omega))
    by_cases c94 : ((((((((⟨#[105, 102, 32]⟩ : ByteArray) ++ t375) ++ (⟨#[32]⟩ : ByteArray)) ++ ((⟨#[60, 61, 62]⟩ : ByteArray).extract ((ji81) : Int).toNat ((wrap64 ((ji81) + 1)) : Int).toNat)) ++ (⟨#[32]⟩ : ByteArray)) ++ t377) ++ (⟨#[32, 116, 104, 101, 110, 32]⟩ : ByteArray)) ++ t379).size + 6 ≤ 9223372036854775807
    ·rw [if_pos c94] at H
     have c94b0 := eq_true c94
     have c94b1 := decide_eq_true c94
     try have c94b2 : (9223372036854775807 < ((((((((⟨#[105, 102, 32]⟩ : ByteArray) ++ t375) ++ (⟨#[32]⟩ : ByteArray)) ++ ((⟨#[60, 61, 62]⟩ : ByteArray).extract ((ji81) : Int).toNat ((wrap64 ((ji81) + 1)) : Int).toNat)) ++ (⟨#[32]⟩ : ByteArray)) ++ t377) ++ (⟨#[32, 116, 104, 101, 110, 32]⟩ : ByteArray)) ++ t379).size + 6) = False := eq_false (Nat.not_lt.2 c94)
     have c94b3 : (9223372036854775807 < 3 + t375.size + 1 + ((((wrap64 ((ji81) + 1)) : Int).toNat - ((ji81) : Int).toNat)) + 1 + t377.size + 6 + t379.size + 6) = False := eq_false (Nat.not_lt.2 (by have h_ := c94; have h2_ : ((wrap64 ((ji81) + 1)) : Int) ≤ 3 := of_eq_true (by assumption); simp only [ByteArray.size_append, ByteArray.size_extract, sz_1, sz_2, sz_3, sz_6] at h_; omega))
     revert H; refine pf_ fun c95 H => ?_
     have c95b0 := decide_eq_true c95
     have c95b1 : decide (3 < t361.length) = true := decide_eq_true (by omega)
     clear c95
     revert H; refine bn_ ?_; rintro t381 A96 H; try dsimp only at H
     revert H; refine pf_ fun c97 H => ?_
     have c97b0 := eq_true c97
     have c97b1 := decide_eq_true c97
     try have c97b2 : (9223372036854775807 < (((((((((⟨#[105, 102, 32]⟩ : ByteArray) ++ t375) ++ (⟨#[32]⟩ : ByteArray)) ++ ((⟨#[60, 61, 62]⟩ : ByteArray).extract ((ji81) : Int).toNat ((wrap64 ((ji81) + 1)) : Int).toNat)) ++ (⟨#[32]⟩ : ByteArray)) ++ t377) ++ (⟨#[32, 116, 104, 101, 110, 32]⟩ : ByteArray)) ++ t379) ++ (⟨#[32, 101, 108, 115, 101, 32]⟩ : ByteArray)).size + t381.size) = False := eq_false (Nat.not_lt.2 c97)
     have c97b3 : (9223372036854775807 < 3 + t375.size + 1 + ((((wrap64 ((ji81) + 1)) : Int).toNat - ((ji81) : Int).toNat)) + 1 + t377.size + 6 + t379.size + 6 + t381.size) = False := eq_false (Nat.not_lt.2 (by have h_ := c97; have h2_ : ((wrap64 ((ji81) + 1)) : Int) ≤ 3 := of_eq_true (by assumption); simp only [ByteArray.size_append, ByteArray.size_extract, sz_1, sz_2, sz_3, sz_6] at h_; omega))
     by_cases c98 : 0 < a2
     ·rw [if_pos c98] at H
      have c98b0 := decide_eq_true c98
      clear c98
      revert H; refine pf_ fun c99 H => ?_
      have c99b0 := eq_true c99
      have c99b1 := decide_eq_true c99
      try have c99b2 : (9223372036854775807 < 2 + ((((((((((⟨#[105, 102, 32]⟩ : ByteArray) ++ t375) ++ (⟨#[32]⟩ : ByteArray)) ++ ((⟨#[60, 61, 62]⟩ : ByteArray).extract ((ji81) : Int).toNat ((wrap64 ((ji81) + 1)) : Int).toNat)) ++ (⟨#[32]⟩ : ByteArray)) ++ t377) ++ (⟨#[32, 116, 104, 101, 110, 32]⟩ : ByteArray)) ++ t379) ++ (⟨#[32, 101, 108, 115, 101, 32]⟩ : ByteArray)) ++ t381).size) = False := eq_false (Nat.not_lt.2 c99)
      have c99b3 : (9223372036854775807 < 2 + (3 + t375.size + 1 + ((((wrap64 ((ji81) + 1)) : Int).toNat - ((ji81) : Int).toNat)) + 1 + t377.size + 6 + t379.size + 6 + t381.size)) = False := eq_false (Nat.not_lt.2 (by have h_ := c99; have h2_ : ((wrap64 ((ji81) + 1)) : Int) ≤ 3 := of_eq_true (by assumption); simp only [ByteArray.size_append, ByteArray.size_extract, sz_1, sz_2, sz_3, sz_6] at h_; omega))
      by_cases c100 : ((⟨#[40, 32]⟩ : ByteArray) ++ ((((((((((⟨#[105, 102, 32]⟩ : ByteArray) ++ t375) ++ (⟨#[32]⟩ : ByteArray)) ++ ((⟨#[60, 61, 62]⟩ : ByteArray).extract ((ji81) : Int).toNat ((wrap64 ((ji81) + 1)) : Int).toNat)) ++ (⟨#[32]⟩ : ByteArray)) ++ t377) ++ (⟨#[32, 116, 104, 101, 110, 32]⟩ : ByteArray)) ++ t379) ++ (⟨#[32, 101, 108, 115, 101, 32]⟩ : ByteArray)) ++ t381)).size + 2 ≤ 9223372036854775807
      case neg => rw [if_neg c100] at H; exact absurd H (by simp)
      refine ?z11_
      let rec p11_ : type_of% ?z11_ := by(
      rw [if_pos c100] at H
      have c100b0 := eq_true c100
      have c100b1 := decide_eq_true c100
      try have c100b2 : (9223372036854775807 < ((⟨#[40, 32]⟩ : ByteArray) ++ ((((((((((⟨#[105, 102, 32]⟩ : ByteArray) ++ t375) ++ (⟨#[32]⟩ : ByteArray)) ++ ((⟨#[60, 61, 62]⟩ : ByteArray).extract ((ji81) : Int).toNat ((wrap64 ((ji81) + 1)) : Int).toNat)) ++ (⟨#[32]⟩ : ByteArray)) ++ t377) ++ (⟨#[32, 116, 104, 101, 110, 32]⟩ : ByteArray)) ++ t379) ++ (⟨#[32, 101, 108, 115, 101, 32]⟩ : ByteArray)) ++ t381)).size + 2) = False := eq_false (Nat.not_lt.2 c100)
      have c100b3 : (9223372036854775807 < 2 + (3 + t375.size + 1 + ((((wrap64 ((ji81) + 1)) : Int).toNat - ((ji81) : Int).toNat)) + 1 + t377.size + 6 + t379.size + 6 + t381.size) + 2) = False := eq_false (Nat.not_lt.2 (by have h_ := c100; have h2_ : ((wrap64 ((ji81) + 1)) : Int) ≤ 3 := of_eq_true (by assumption); simp only [ByteArray.size_append, ByteArray.size_extract, sz_1, sz_2, sz_3, sz_6] at h_; omega))
      obtain rfl := Option.some.inj H
      try go_wp2
      replace HO_8 := am_ (Kd.R_drew HO_8.out)
      replace BK360 := am_ (blk_drew BK360.out)
      replace HB := am_ (below_drew1 HB.out)
      obtain ⟨Ao102, co102, eo102⟩ := Kd.R_slice HO_8.out
      (first | subst eo102 | (injection eo102 with f1_ f2_ f3_; have f4_ := f1_.symm; have f5_ := f3_.symm; clear f1_ f2_ f3_; subst f4_; subst f5_))
      have p374 : 0 ≤ (0 : Int) := (by omega)
      have q374 : 0 < (t361.length : Int) := od_
      obtain ⟨ad374, e374, hx374_0⟩ := Kd.at_int (Kd.R_reads' HO_8.out).2.2 0 p374 q374
      cases e374
      have qi374 : (0 < t361.length) = True := eq_true (by omega)
      (try rw [show ((0 : Int)).toNat = 0 from rfl] at hx374_0)
      (try rw [Addr.add_zero'] at hx374_0)
      replace p374 := eq_true p374
      replace q374 := eq_true q374
      have p376 : 0 ≤ (1 : Int) := (by omega)
      have q376 : 1 < (t361.length : Int) := od_
      obtain ⟨ad376, e376, hx376_0⟩ := Kd.at_int (Kd.R_reads' HO_8.out).2.2 1 p376 q376
      obtain rfl : ad374 = ad376 := (by injection e376)
      (try simp only [show (1 : Int).toNat = 1 from rfl, Nat.reduceMul, Nat.reduceEqDiff, Go.Addr.add, ↓reduceIte] at hx376_0)
      have qi376 : (1 < t361.length) = True := eq_true (by omega)
      (try rw [show ((1 : Int)).toNat = 1 from rfl] at hx376_0)
      replace p376 := eq_true p376
      replace q376 := eq_true q376
      have p378 : 0 ≤ (2 : Int) := (by omega)
      have q378 : 2 < (t361.length : Int) := od_
      obtain ⟨ad378, e378, hx378_0⟩ := Kd.at_int (Kd.R_reads' HO_8.out).2.2 2 p378 q378
      obtain rfl : ad374 = ad378 := (by injection e378)
      (try simp only [show (2 : Int).toNat = 2 from rfl, Nat.reduceMul, Nat.reduceEqDiff, Go.Addr.add, ↓reduceIte] at hx378_0)
      have qi378 : (2 < t361.length) = True := eq_true (by omega)
      (try rw [show ((2 : Int)).toNat = 2 from rfl] at hx378_0)
      replace p378 := eq_true p378
      replace q378 := eq_true q378
      have p380 : 0 ≤ (3 : Int) := (by omega)
      have q380 : 3 < (t361.length : Int) := od_
      obtain ⟨ad380, e380, hx380_0⟩ := Kd.at_int (Kd.R_reads' HO_8.out).2.2 3 p380 q380
      obtain rfl : ad374 = ad380 := (by injection e380)
      (try simp only [show (3 : Int).toNat = 3 from rfl, Nat.reduceMul, Nat.reduceEqDiff, Go.Addr.add, ↓reduceIte] at hx380_0)
      have qi380 : (3 < t361.length) = True := eq_true (by omega)
      (try rw [show ((3 : Int)).toNat = 3 from rfl] at hx380_0)
      replace p380 := eq_true p380
      replace q380 := eq_true q380
      refine start_ (n := 38) (S := fun w' => w'.cell? ⟨gb360, 0, none⟩ = some (.int .i64 ((rd_T73 l0 a1).f0)) ∧ w'.cell? ⟨gb360, 1, none⟩ = some (.int .i64 ((rd_T73 l0 a1).f1)) ∧ w'.cell? ad374 = some (.int .i64 (rd t361 0)) ∧ w'.cell? ⟨ad374.block, ad374.off + 1, none⟩ = some (.int .i64 (rd t361 1)) ∧ w'.cell? ⟨ad374.block, ad374.off + 2, none⟩ = some (.int .i64 (rd t361 2)) ∧ w'.cell? ⟨ad374.block, ad374.off + 3, none⟩ = some (.int .i64 (rd t361 3))) (ds := []) (bb 38 0) (by kernel_rfl) rfl rfl ⟨(blk_cell BK360.out 0).trans rfl, (blk_cell BK360.out 1).trans rfl, hx374_0, hx376_0, hx378_0, hx380_0⟩ (fun hHeld => ?_); refine with_tabW impl_ruleText.tab6 impl_ruleText.bits6 (fun HT_ HW_ => ?_)
      generalize wc.drew = w101 at HO_8 BK360 HB hx374_0 hx376_0 hx378_0 hx380_0 hHeld ⊢
      refine pm_ HT_ 0 20 38 1 ?_
      refine pm_ HT_ 1 21 38 3 ?_
      refine pm_ HT_ 2 22 38 7 ?_
      refine pm_ HT_ 7 27 38 135 ?_
      refine pm_ HT_ 10 30 38 1159 ?_
      refine pm_ HT_ 17 37 38 132231 ?_
      refine pm_ HT_ 18 38 38 394375 ?_
      refine pm_ HT_ 19 39 38 918663 ?_
      refine pm_ HT_ 24 44 38 17695879 ?_
      refine pm_ HT_ 25 45 38 51250311 ?_
      refine pm_ HT_ 26 46 38 118359175 ?_
      refine pm_ HT_ 31 51 38 2265842823 ?_
      refine pm_ HT_ 32 52 38 6560810119 ?_
      refine pm_ HT_ 33 53 38 15150744711 ?_
      refine tk_ HT_ HW_ hHeld 3 (some 23) (bb 38 15150744719) (h := ?_)
      refine tk_ HT_ HW_ hHeld 8 (some 28) (bb 38 15150744975) (h := ?_)
      refine pm_ HT_ 9 29 38 15150745487 ?_
      refine tk_ HT_ HW_ hHeld 11 (some 31) (bb 38 15150747535) (h := ?_)
      refine pm_ HT_ 12 32 38 15150751631 ?_
      refine pm_ HT_ 13 33 38 15150759823 ?_
      refine pm_ HT_ 14 34 38 15150776207 ?_
      refine tk_ HT_ HW_ hHeld 20 (some 40) (bb 38 15151824783) (h := ?_)
      refine tk_ HT_ HW_ hHeld 27 (some 47) (bb 38 15286042511) (h := ?_)
      refine tk_ HT_ HW_ hHeld 34 (some 54) (bb 38 32465911695) (h := ?_)
      refine one_ (i := 4) (N := some 24) (bb 38 32465911711) rfl rfl (one_of HT_.out (by kernel_rfl)) (by decide) (fun K hK => ?_)
      refine goes_ Tryz.func25 (by kernel_rfl) rfl #[.slice (some ad359) l0.length c0, .int .i64 (rd t361 0), .int .i64 1] (by rfl) rfl rfl (by (try simp only [List.map_toArray, List.map_cons, List.map_nil]); first | done | rfl | (simp only [List.length_drop, List.length_take]; rfl)) ?_
      with_reducible refine (ih kj50 (by have := HJ20.out; have := HJ50.out; omega) _ _ l0 (rd t361 0) 1 t375 _ ?side1 ?side2 A78.out (by exact LaidW.step HLw (hb_ HB))).mono ?_
      (case side1 => exact Kd.C_w HR0 HB)
      (case side2 => exact HC0.out)
      rintro e w103 ⟨rfl, hb⟩
      have HS2_ := (hb.cell (World.block_lt_of_cell? _ _ (hHeld.2.2.1))).trans (hHeld.2.2.1)
      have HS3_ := (hb.cell (World.block_lt_of_cell? _ _ (hHeld.2.2.2.1))).trans (hHeld.2.2.2.1)
      have HS4_ := (hb.cell (World.block_lt_of_cell? _ _ (hHeld.2.2.2.2.1))).trans (hHeld.2.2.2.2.1)
      have HS5_ := (hb.cell (World.block_lt_of_cell? _ _ (hHeld.2.2.2.2.2))).trans (hHeld.2.2.2.2.2)
      refine ⟨_, rfl, ?_⟩
      replace HO_8 := am_ (Kd.R_below (Kd.R_p HO_8) hb)
      replace BK360 := am_ (blk_below (kp_ BK360) hb)
      replace HB := am_ (below_step (hb_ HB) hb)
      refine hK.out _ _ ⟨(blk_cell BK360.out 0).trans rfl, (blk_cell BK360.out 1).trans rfl, HS2_, HS3_, HS4_, HS5_⟩ (fun hHeld => ?_)
      clear hK K
      refine nm_ (some 24) (h := ?_)
      refine pm_ HT_ 5 25 38 32465911743 ?_
      refine pm_ HT_ 6 26 38 32465911807 ?_
      refine pm_ HT_ 15 35 38 32465944575 ?_
      refine pm_ HT_ 16 36 38 32466010111 ?_
      refine one_ (i := 21) (N := some 41) (bb 38 32468107263) rfl rfl (one_of HT_.out (by kernel_rfl)) (by decide) (fun K hK => ?_)
      refine goes_ Tryz.func25 (by kernel_rfl) rfl #[.slice (some ad359) l0.length c0, .int .i64 (rd t361 1), .int .i64 1] (by rfl) rfl rfl (by (try simp only [List.map_toArray, List.map_cons, List.map_nil]); first | done | rfl | (simp only [List.length_drop, List.length_take]; rfl)) ?_
      with_reducible refine (ih kj50 (by have := HJ20.out; have := HJ50.out; omega) _ _ l0 (rd t361 1) 1 t377 _ ?side1 ?side2 A88.out (by exact LaidW.step HLw (hb_ HB))).mono ?_
      (case side1 => exact Kd.C_w HR0 HB)
      (case side2 => exact HC0.out)
      rintro e w104 ⟨rfl, hb⟩
      have HS2_ := (hb.cell (World.block_lt_of_cell? _ _ (hHeld.2.2.1))).trans (hHeld.2.2.1)
      have HS3_ := (hb.cell (World.block_lt_of_cell? _ _ (hHeld.2.2.2.1))).trans (hHeld.2.2.2.1)
      have HS4_ := (hb.cell (World.block_lt_of_cell? _ _ (hHeld.2.2.2.2.1))).trans (hHeld.2.2.2.2.1)
      have HS5_ := (hb.cell (World.block_lt_of_cell? _ _ (hHeld.2.2.2.2.2))).trans (hHeld.2.2.2.2.2)
      refine ⟨_, rfl, ?_⟩
      replace HO_8 := am_ (Kd.R_below (Kd.R_p HO_8) hb)
      replace BK360 := am_ (blk_below (kp_ BK360) hb)
      replace HB := am_ (below_step (hb_ HB) hb)
      refine hK.out _ _ ⟨(blk_cell BK360.out 0).trans rfl, (blk_cell BK360.out 1).trans rfl, HS2_, HS3_, HS4_, HS5_⟩ (fun hHeld => ?_)
      clear hK K
      refine nm_ (some 41) (h := ?_)
      refine pm_ HT_ 22 42 38 32472301567 ?_
      refine pm_ HT_ 23 43 38 32480690175 ?_
      refine one_ (i := 28) (N := some 48) (bb 38 32749125631) rfl rfl (one_of HT_.out (by kernel_rfl)) (by decide) (fun K hK => ?_)
      refine goes_ Tryz.func25 (by kernel_rfl) rfl #[.slice (some ad359) l0.length c0, .int .i64 (rd t361 2), .int .i64 0] (by rfl) rfl rfl (by (try simp only [List.map_toArray, List.map_cons, List.map_nil]); first | done | rfl | (simp only [List.length_drop, List.length_take]; rfl)) ?_
      with_reducible refine (ih kj50 (by have := HJ20.out; have := HJ50.out; omega) _ _ l0 (rd t361 2) 0 t379 _ ?side1 ?side2 A92.out (by exact LaidW.step HLw (hb_ HB))).mono ?_
      (case side1 => exact Kd.C_w HR0 HB)
      (case side2 => exact HC0.out)
      rintro e w105 ⟨rfl, hb⟩
      have HS2_ := (hb.cell (World.block_lt_of_cell? _ _ (hHeld.2.2.1))).trans (hHeld.2.2.1)
      have HS3_ := (hb.cell (World.block_lt_of_cell? _ _ (hHeld.2.2.2.1))).trans (hHeld.2.2.2.1)
      have HS4_ := (hb.cell (World.block_lt_of_cell? _ _ (hHeld.2.2.2.2.1))).trans (hHeld.2.2.2.2.1)
      have HS5_ := (hb.cell (World.block_lt_of_cell? _ _ (hHeld.2.2.2.2.2))).trans (hHeld.2.2.2.2.2)
      refine ⟨_, rfl, ?_⟩
      replace HO_8 := am_ (Kd.R_below (Kd.R_p HO_8) hb)
      replace BK360 := am_ (blk_below (kp_ BK360) hb)
      replace HB := am_ (below_step (hb_ HB) hb)
      refine hK.out _ _ ⟨(blk_cell BK360.out 0).trans rfl, (blk_cell BK360.out 1).trans rfl, HS2_, HS3_, HS4_, HS5_⟩ (fun hHeld => ?_)
      clear hK K
      refine nm_ (some 48) (h := ?_)
      refine pm_ HT_ 29 49 38 33285996543 ?_
      refine pm_ HT_ 30 50 38 34359738367 ?_
      refine one_ (i := 35) (N := some 55) (bb 38 68719476735) rfl rfl (one_of HT_.out (by kernel_rfl)) (by decide) (fun K hK => ?_)
      refine goes_ Tryz.func25 (by kernel_rfl) rfl #[.slice (some ad359) l0.length c0, .int .i64 (rd t361 3), .int .i64 0] (by rfl) rfl rfl (by (try simp only [List.map_toArray, List.map_cons, List.map_nil]); first | done | rfl | (simp only [List.length_drop, List.length_take]; rfl)) ?_
      with_reducible refine (ih kj50 (by have := HJ20.out; have := HJ50.out; omega) _ _ l0 (rd t361 3) 0 t381 _ ?side1 ?side2 A96.out (by exact LaidW.step HLw (hb_ HB))).mono ?_
      (case side1 => exact Kd.C_w HR0 HB)
      (case side2 => exact HC0.out)
      rintro e w106 ⟨rfl, hb⟩
      have HS2_ := (hb.cell (World.block_lt_of_cell? _ _ (hHeld.2.2.1))).trans (hHeld.2.2.1)
      have HS3_ := (hb.cell (World.block_lt_of_cell? _ _ (hHeld.2.2.2.1))).trans (hHeld.2.2.2.1)
      have HS4_ := (hb.cell (World.block_lt_of_cell? _ _ (hHeld.2.2.2.2.1))).trans (hHeld.2.2.2.2.1)
      have HS5_ := (hb.cell (World.block_lt_of_cell? _ _ (hHeld.2.2.2.2.2))).trans (hHeld.2.2.2.2.2)
      refine ⟨_, rfl, ?_⟩
      replace HO_8 := am_ (Kd.R_below (Kd.R_p HO_8) hb)
      replace BK360 := am_ (blk_below (kp_ BK360) hb)
      replace HB := am_ (below_step (hb_ HB) hb)
      refine hK.out _ _ ⟨(blk_cell BK360.out 0).trans rfl, (blk_cell BK360.out 1).trans rfl, HS2_, HS3_, HS4_, HS5_⟩ (fun hHeld => ?_)
      clear hK K
      refine nm_ (some 55) (h := ?_)
      refine pm_ HT_ 36 56 38 137438953471 ?_
      refine pm_ HT_ 37 9 38 274877906943 ?_
      refine done_ (done_of HT_.out (by kernel_rfl)) ?_
      try go_wp2
      go_ret
      exact ⟨by first | rfl | (simp [errW_none, errW_some] <;> rfl) | (simp only [← hji81]; first | rfl | (simp [errW_none, errW_some] <;> rfl)) | (simp [*, errW_none, errW_some] <;> rfl), hb_ HB⟩
      )
      exact p11_
     refine ?z12_
     let rec p12_ : type_of% ?z12_ := by(
     rw [if_neg c98] at H
     have c98b0 := decide_eq_false c98
     clear c98
     obtain rfl := Option.some.inj H
     try go_wp2
     replace HO_8 := am_ (Kd.R_drew HO_8.out)
     replace BK360 := am_ (blk_drew BK360.out)
     replace HB := am_ (below_drew1 HB.out)
     obtain ⟨Ao108, co108, eo108⟩ := Kd.R_slice HO_8.out
     (first | subst eo108 | (injection eo108 with f1_ f2_ f3_; have f4_ := f1_.symm; have f5_ := f3_.symm; clear f1_ f2_ f3_; subst f4_; subst f5_))
     have p374 : 0 ≤ (0 : Int) := (by omega)
     have q374 : 0 < (t361.length : Int) := od_
     obtain ⟨ad374, e374, hx374_0⟩ := Kd.at_int (Kd.R_reads' HO_8.out).2.2 0 p374 q374
     cases e374
     have qi374 : (0 < t361.length) = True := eq_true (by omega)
     (try rw [show ((0 : Int)).toNat = 0 from rfl] at hx374_0)
     (try rw [Addr.add_zero'] at hx374_0)
     replace p374 := eq_true p374
     replace q374 := eq_true q374
     have p376 : 0 ≤ (1 : Int) := (by omega)
     have q376 : 1 < (t361.length : Int) := od_
     obtain ⟨ad376, e376, hx376_0⟩ := Kd.at_int (Kd.R_reads' HO_8.out).2.2 1 p376 q376
     obtain rfl : ad374 = ad376 := (by injection e376)
     (try simp only [show (1 : Int).toNat = 1 from rfl, Nat.reduceMul, Nat.reduceEqDiff, Go.Addr.add, ↓reduceIte] at hx376_0)
     have qi376 : (1 < t361.length) = True := eq_true (by omega)
     (try rw [show ((1 : Int)).toNat = 1 from rfl] at hx376_0)
     replace p376 := eq_true p376
     replace q376 := eq_true q376
     have p378 : 0 ≤ (2 : Int) := (by omega)
     have q378 : 2 < (t361.length : Int) := od_
     obtain ⟨ad378, e378, hx378_0⟩ := Kd.at_int (Kd.R_reads' HO_8.out).2.2 2 p378 q378
     obtain rfl : ad374 = ad378 := (by injection e378)
     (try simp only [show (2 : Int).toNat = 2 from rfl, Nat.reduceMul, Nat.reduceEqDiff, Go.Addr.add, ↓reduceIte] at hx378_0)
     have qi378 : (2 < t361.length) = True := eq_true (by omega)
     (try rw [show ((2 : Int)).toNat = 2 from rfl] at hx378_0)
     replace p378 := eq_true p378
     replace q378 := eq_true q378
     have p380 : 0 ≤ (3 : Int) := (by omega)
     have q380 : 3 < (t361.length : Int) := od_
     obtain ⟨ad380, e380, hx380_0⟩ := Kd.at_int (Kd.R_reads' HO_8.out).2.2 3 p380 q380
     obtain rfl : ad374 = ad380 := (by injection e380)
     (try simp only [show (3 : Int).toNat = 3 from rfl, Nat.reduceMul, Nat.reduceEqDiff, Go.Addr.add, ↓reduceIte] at hx380_0)
     have qi380 : (3 < t361.length) = True := eq_true (by omega)
     (try rw [show ((3 : Int)).toNat = 3 from rfl] at hx380_0)
     replace p380 := eq_true p380
     replace q380 := eq_true q380
     refine start_ (n := 38) (S := fun w' => w'.cell? ⟨gb360, 0, none⟩ = some (.int .i64 ((rd_T73 l0 a1).f0)) ∧ w'.cell? ⟨gb360, 1, none⟩ = some (.int .i64 ((rd_T73 l0 a1).f1)) ∧ w'.cell? ad374 = some (.int .i64 (rd t361 0)) ∧ w'.cell? ⟨ad374.block, ad374.off + 1, none⟩ = some (.int .i64 (rd t361 1)) ∧ w'.cell? ⟨ad374.block, ad374.off + 2, none⟩ = some (.int .i64 (rd t361 2)) ∧ w'.cell? ⟨ad374.block, ad374.off + 3, none⟩ = some (.int .i64 (rd t361 3))) (ds := []) (bb 38 0) (by kernel_rfl) rfl rfl ⟨(blk_cell BK360.out 0).trans rfl, (blk_cell BK360.out 1).trans rfl, hx374_0, hx376_0, hx378_0, hx380_0⟩ (fun hHeld => ?_); refine with_tabW impl_ruleText.tab6 impl_ruleText.bits6 (fun HT_ HW_ => ?_)
     generalize wc.drew = w107 at HO_8 BK360 HB hx374_0 hx376_0 hx378_0 hx380_0 hHeld ⊢
     refine pm_ HT_ 0 20 38 1 ?_
     refine pm_ HT_ 1 21 38 3 ?_
     refine pm_ HT_ 2 22 38 7 ?_
     refine pm_ HT_ 7 27 38 135 ?_
     refine pm_ HT_ 10 30 38 1159 ?_
     refine pm_ HT_ 17 37 38 132231 ?_
     refine pm_ HT_ 18 38 38 394375 ?_
     refine pm_ HT_ 19 39 38 918663 ?_
     refine pm_ HT_ 24 44 38 17695879 ?_
     refine pm_ HT_ 25 45 38 51250311 ?_
     refine pm_ HT_ 26 46 38 118359175 ?_
     refine pm_ HT_ 31 51 38 2265842823 ?_
     refine pm_ HT_ 32 52 38 6560810119 ?_
     refine pm_ HT_ 33 53 38 15150744711 ?_
     refine tk_ HT_ HW_ hHeld 3 (some 23) (bb 38 15150744719) (h := ?_)
     refine tk_ HT_ HW_ hHeld 8 (some 28) (bb 38 15150744975) (h := ?_)
     refine pm_ HT_ 9 29 38 15150745487 ?_
     refine tk_ HT_ HW_ hHeld 11 (some 31) (bb 38 15150747535) (h := ?_)
     refine pm_ HT_ 12 32 38 15150751631 ?_
     refine pm_ HT_ 13 33 38 15150759823 ?_
     refine pm_ HT_ 14 34 38 15150776207 ?_
     refine tk_ HT_ HW_ hHeld 20 (some 40) (bb 38 15151824783) (h := ?_)
     refine tk_ HT_ HW_ hHeld 27 (some 47) (bb 38 15286042511) (h := ?_)
     refine tk_ HT_ HW_ hHeld 34 (some 54) (bb 38 32465911695) (h := ?_)
     refine one_ (i := 4) (N := some 24) (bb 38 32465911711) rfl rfl (one_of HT_.out (by kernel_rfl)) (by decide) (fun K hK => ?_)
     refine goes_ Tryz.func25 (by kernel_rfl) rfl #[.slice (some ad359) l0.length c0, .int .i64 (rd t361 0), .int .i64 1] (by rfl) rfl rfl (by (try simp only [List.map_toArray, List.map_cons, List.map_nil]); first | done | rfl | (simp only [List.length_drop, List.length_take]; rfl)) ?_
     with_reducible refine (ih kj50 (by have := HJ20.out; have := HJ50.out; omega) _ _ l0 (rd t361 0) 1 t375 _ ?side1 ?side2 A78.out (by exact LaidW.step HLw (hb_ HB))).mono ?_
     (case side1 => exact Kd.C_w HR0 HB)
     (case side2 => exact HC0.out)
     rintro e w109 ⟨rfl, hb⟩
     have HS2_ := (hb.cell (World.block_lt_of_cell? _ _ (hHeld.2.2.1))).trans (hHeld.2.2.1)
     have HS3_ := (hb.cell (World.block_lt_of_cell? _ _ (hHeld.2.2.2.1))).trans (hHeld.2.2.2.1)
     have HS4_ := (hb.cell (World.block_lt_of_cell? _ _ (hHeld.2.2.2.2.1))).trans (hHeld.2.2.2.2.1)
     have HS5_ := (hb.cell (World.block_lt_of_cell? _ _ (hHeld.2.2.2.2.2))).trans (hHeld.2.2.2.2.2)
     refine ⟨_, rfl, ?_⟩
     replace HO_8 := am_ (Kd.R_below (Kd.R_p HO_8) hb)
     replace BK360 := am_ (blk_below (kp_ BK360) hb)
     replace HB := am_ (below_step (hb_ HB) hb)
     refine hK.out _ _ ⟨(blk_cell BK360.out 0).trans rfl, (blk_cell BK360.out 1).trans rfl, HS2_, HS3_, HS4_, HS5_⟩ (fun hHeld => ?_)
     clear hK K
     refine nm_ (some 24) (h := ?_)
     refine pm_ HT_ 5 25 38 32465911743 ?_
     refine pm_ HT_ 6 26 38 32465911807 ?_
     refine pm_ HT_ 15 35 38 32465944575 ?_
     refine pm_ HT_ 16 36 38 32466010111 ?_
     refine one_ (i := 21) (N := some 41) (bb 38 32468107263) rfl rfl (one_of HT_.out (by kernel_rfl)) (by decide) (fun K hK => ?_)
     refine goes_ Tryz.func25 (by kernel_rfl) rfl #[.slice (some ad359) l0.length c0, .int .i64 (rd t361 1), .int .i64 1] (by rfl) rfl rfl (by (try simp only [List.map_toArray, List.map_cons, List.map_nil]); first | done | rfl | (simp only [List.length_drop, List.length_take]; rfl)) ?_
     with_reducible refine (ih kj50 (by have := HJ20.out; have := HJ50.out; omega) _ _ l0 (rd t361 1) 1 t377 _ ?side1 ?side2 A88.out (by exact LaidW.step HLw (hb_ HB))).mono ?_
     (case side1 => exact Kd.C_w HR0 HB)
     (case side2 => exact HC0.out)
     rintro e w110 ⟨rfl, hb⟩
     have HS2_ := (hb.cell (World.block_lt_of_cell? _ _ (hHeld.2.2.1))).trans (hHeld.2.2.1)
     have HS3_ := (hb.cell (World.block_lt_of_cell? _ _ (hHeld.2.2.2.1))).trans (hHeld.2.2.2.1)
     have HS4_ := (hb.cell (World.block_lt_of_cell? _ _ (hHeld.2.2.2.2.1))).trans (hHeld.2.2.2.2.1)
     have HS5_ := (hb.cell (World.block_lt_of_cell? _ _ (hHeld.2.2.2.2.2))).trans (hHeld.2.2.2.2.2)
     refine ⟨_, rfl, ?_⟩
     replace HO_8 := am_ (Kd.R_below (Kd.R_p HO_8) hb)
     replace BK360 := am_ (blk_below (kp_ BK360) hb)
     replace HB := am_ (below_step (hb_ HB) hb)
     refine hK.out _ _ ⟨(blk_cell BK360.out 0).trans rfl, (blk_cell BK360.out 1).trans rfl, HS2_, HS3_, HS4_, HS5_⟩ (fun hHeld => ?_)
     clear hK K
     refine nm_ (some 41) (h := ?_)
     refine pm_ HT_ 22 42 38 32472301567 ?_
     refine pm_ HT_ 23 43 38 32480690175 ?_
     refine one_ (i := 28) (N := some 48) (bb 38 32749125631) rfl rfl (one_of HT_.out (by kernel_rfl)) (by decide) (fun K hK => ?_)
     refine goes_ Tryz.func25 (by kernel_rfl) rfl #[.slice (some ad359) l0.length c0, .int .i64 (rd t361 2), .int .i64 0] (by rfl) rfl rfl (by (try simp only [List.map_toArray, List.map_cons, List.map_nil]); first | done | rfl | (simp only [List.length_drop, List.length_take]; rfl)) ?_
     with_reducible refine (ih kj50 (by have := HJ20.out; have := HJ50.out; omega) _ _ l0 (rd t361 2) 0 t379 _ ?side1 ?side2 A92.out (by exact LaidW.step HLw (hb_ HB))).mono ?_
     (case side1 => exact Kd.C_w HR0 HB)
     (case side2 => exact HC0.out)
     rintro e w111 ⟨rfl, hb⟩
     have HS2_ := (hb.cell (World.block_lt_of_cell? _ _ (hHeld.2.2.1))).trans (hHeld.2.2.1)
     have HS3_ := (hb.cell (World.block_lt_of_cell? _ _ (hHeld.2.2.2.1))).trans (hHeld.2.2.2.1)
     have HS4_ := (hb.cell (World.block_lt_of_cell? _ _ (hHeld.2.2.2.2.1))).trans (hHeld.2.2.2.2.1)
     have HS5_ := (hb.cell (World.block_lt_of_cell? _ _ (hHeld.2.2.2.2.2))).trans (hHeld.2.2.2.2.2)
     refine ⟨_, rfl, ?_⟩
     replace HO_8 := am_ (Kd.R_below (Kd.R_p HO_8) hb)
     replace BK360 := am_ (blk_below (kp_ BK360) hb)
     replace HB := am_ (below_step (hb_ HB) hb)
     refine hK.out _ _ ⟨(blk_cell BK360.out 0).trans rfl, (blk_cell BK360.out 1).trans rfl, HS2_, HS3_, HS4_, HS5_⟩ (fun hHeld => ?_)
     clear hK K
     refine nm_ (some 48) (h := ?_)
     refine pm_ HT_ 29 49 38 33285996543 ?_
     refine pm_ HT_ 30 50 38 34359738367 ?_
     refine one_ (i := 35) (N := some 55) (bb 38 68719476735) rfl rfl (one_of HT_.out (by kernel_rfl)) (by decide) (fun K hK => ?_)
     refine goes_ Tryz.func25 (by kernel_rfl) rfl #[.slice (some ad359) l0.length c0, .int .i64 (rd t361 3), .int .i64 0] (by rfl) rfl rfl (by (try simp only [List.map_toArray, List.map_cons, List.map_nil]); first | done | rfl | (simp only [List.length_drop, List.length_take]; rfl)) ?_
     with_reducible refine (ih kj50 (by have := HJ20.out; have := HJ50.out; omega) _ _ l0 (rd t361 3) 0 t381 _ ?side1 ?side2 A96.out (by exact LaidW.step HLw (hb_ HB))).mono ?_
     (case side1 => exact Kd.C_w HR0 HB)
     (case side2 => exact HC0.out)
     rintro e w112 ⟨rfl, hb⟩
     have HS2_ := (hb.cell (World.block_lt_of_cell? _ _ (hHeld.2.2.1))).trans (hHeld.2.2.1)
     have HS3_ := (hb.cell (World.block_lt_of_cell? _ _ (hHeld.2.2.2.1))).trans (hHeld.2.2.2.1)
     have HS4_ := (hb.cell (World.block_lt_of_cell? _ _ (hHeld.2.2.2.2.1))).trans (hHeld.2.2.2.2.1)
     have HS5_ := (hb.cell (World.block_lt_of_cell? _ _ (hHeld.2.2.2.2.2))).trans (hHeld.2.2.2.2.2)
     refine ⟨_, rfl, ?_⟩
     replace HO_8 := am_ (Kd.R_below (Kd.R_p HO_8) hb)
     replace BK360 := am_ (blk_below (kp_ BK360) hb)
     replace HB := am_ (below_step (hb_ HB) hb)
     refine hK.out _ _ ⟨(blk_cell BK360.out 0).trans rfl, (blk_cell BK360.out 1).trans rfl, HS2_, HS3_, HS4_, HS5_⟩ (fun hHeld => ?_)
     clear hK K
     refine nm_ (some 55) (h := ?_)
     refine pm_ HT_ 36 56 38 137438953471 ?_
     refine pm_ HT_ 37 9 38 274877906943 ?_
     refine done_ (done_of HT_.out (by kernel_rfl)) ?_
     try go_wp2
     go_ret
     exact ⟨by first | rfl | (simp [errW_none, errW_some] <;> rfl) | (simp only [← hji81]; first | rfl | (simp [errW_none, errW_some] <;> rfl)) | (simp [*, errW_none, errW_some] <;> rfl), hb_ HB⟩
     )
     exact p12_
    ·rw [if_neg c94] at H
     exact absurd H (by simp)
    )
    exact p10_
   ·rw [if_neg c85] at H
    exact absurd H (by simp)
   )
   exact p9_
  ·rw [if_neg c79] at H
   exact absurd H (by simp)
  )
  exact p8_
 )
 exact p1_

end Go.Proofs.YtihjlepgmppedaaGreatDoor.PFnRules
