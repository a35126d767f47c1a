-- Laid for this claim by wip/tools/print2.sh, a changed copy of the kit's print (wip/tools/patch_print.py): not by print.sh. Changed by wip/fix/strsize.py. Changed by wip/fix/rushow.py.
import Derived.Test.YtikdododhkljeaaDoorPFnExactRuleTextx0
import Derived.Test.YtikdododhkljeaaDoorPFnExactRuleTextx1
import Derived.Test.YtikdododhkljeaaDoorPFnExactRuleTextx2
import Derived.Test.YtikdododhkljeaaDoorWSteps
import Derived.Test.YtikdododhkljeaaDoorWSqueeze
namespace Go.Proofs.YtikdododhkljeaaDoor.PFnExactRuleText
open Go.RowKit Go.Proofs.YtikdododhkljeaaDoorW.PrintWords Go.Proofs.YtikdododhkljeaaDoorW.PrintLast Go.Proofs.YtikdododhkljeaaDoorW.PrintMore
attribute [local go_sem] max2_int min2_int max_two min_two max_three min_three max_four min_four   -- for this text's walks alone
set_option linter.unusedVariables false
set_option linter.unusedSimpArgs false

theorem addS_ {P : Program} {md : Region.Mode} {ops : Array Oper} {Q : Exit → Act → World → Prop} {S E : World → Prop} : ∀ {fuel : Nat} {l : Array Bool} {a : Act} {w : World}, S w → E w → wpAnyLast P md ops Q (fun w => E w ∧ S w) [] fuel l a w → wpAnyLast P md ops Q S [] fuel l a w
 | 0, _, _, _, _, _, h => h
 | fuel + 1, _, _, _, hS, hE, h => ⟨h.1, fun i hi => wpOp_mono (fun a' w' h' => ⟨fun hn hs => (h'.1 hn ⟨hE, hs⟩).2, addS_ (h'.1 (by simp) ⟨hE, hS⟩).2 (h'.1 (by simp) ⟨hE, hS⟩).1 h'.2⟩) (h.2 i hi)⟩
/-! ### spec_ruShow: function 18 -/
def spec_ruShow.f : Nat → List (S33) → List (List Int) → Int → Int → Option (ByteArray)
 | 0, _, _, _, _ => none
 | k + 1, l0, l1, a2, a3 => if 0 ≤ a2 then (if a2 < (l0.length : Int) then (if a2 < (l1.length : Int) then ((spec_ruLevel.f ((rd_T33 l0 a2).f0)).bind fun t165 => (if t165 = 3 then ((spec_l1Num.f k ((rd_T33 l0 a2).f1)).bind fun t166 => (if ((rd_T33 l0 a2).f0) = 1 then ((spec_ruFields.f).bind fun t167 => (if 0 ≤ ((rd_T33 l0 a2).f1) then (if ((rd_T33 l0 a2).f1) < (t167.length : Int) then (if t165 < a3 then (if 2 + (rdOf ByteArray.empty t167 ((rd_T33 l0 a2).f1)).size ≤ 9223372036854775807 then (if ((⟨#[40, 32]⟩ : ByteArray) ++ (rdOf ByteArray.empty t167 ((rd_T33 l0 a2).f1))).size + 2 ≤ 9223372036854775807 then (some (((⟨#[40, 32]⟩ : ByteArray) ++ (rdOf ByteArray.empty t167 ((rd_T33 l0 a2).f1))) ++ (⟨#[32, 41]⟩ : ByteArray))) else (none)) else (none)) else (some (rdOf ByteArray.empty t167 ((rd_T33 l0 a2).f1)))) else (none)) else (none))) else (if t165 < a3 then (if 2 + t166.size ≤ 9223372036854775807 then (if ((⟨#[40, 32]⟩ : ByteArray) ++ t166).size + 2 ≤ 9223372036854775807 then (some (((⟨#[40, 32]⟩ : ByteArray) ++ t166) ++ (⟨#[32, 41]⟩ : ByteArray))) else (none)) else (none)) else (some t166)))) else (if t165 = 0 then (if 0 < ((rd_L3 l1 a2).length : Int) then ((spec_ruShow.f k l0 l1 (rd (rd_L3 l1 a2) 0) 1).bind fun t172 => (if 3 + t172.size ≤ 9223372036854775807 then (if ((⟨#[105, 102, 32]⟩ : ByteArray) ++ t172).size + 1 ≤ 9223372036854775807 then ((some (([(⟨#[60]⟩ : ByteArray), (⟨#[61]⟩ : ByteArray), (⟨#[62]⟩ : ByteArray)] : List ByteArray) : List ByteArray)).bind fun y173 => (if 0 ≤ (wrap64 (((rd_T33 l0 a2).f0) - 6)) then (if (wrap64 (((rd_T33 l0 a2).f0) - 6)) < (y173.length : Int) then (if (((⟨#[105, 102, 32]⟩ : ByteArray) ++ t172) ++ (⟨#[32]⟩ : ByteArray)).size + (rdOf ByteArray.empty y173 (wrap64 (((rd_T33 l0 a2).f0) - 6))).size ≤ 9223372036854775807 then (if ((((⟨#[105, 102, 32]⟩ : ByteArray) ++ t172) ++ (⟨#[32]⟩ : ByteArray)) ++ (rdOf ByteArray.empty y173 (wrap64 (((rd_T33 l0 a2).f0) - 6)))).size + 1 ≤ 9223372036854775807 then (if 1 < ((rd_L3 l1 a2).length : Int) then ((spec_ruShow.f k l0 l1 (rd (rd_L3 l1 a2) 1) 1).bind fun t178 => (if (((((⟨#[105, 102, 32]⟩ : ByteArray) ++ t172) ++ (⟨#[32]⟩ : ByteArray)) ++ (rdOf ByteArray.empty y173 (wrap64 (((rd_T33 l0 a2).f0) - 6)))) ++ (⟨#[32]⟩ : ByteArray)).size + t178.size ≤ 9223372036854775807 then (if ((((((⟨#[105, 102, 32]⟩ : ByteArray) ++ t172) ++ (⟨#[32]⟩ : ByteArray)) ++ (rdOf ByteArray.empty y173 (wrap64 (((rd_T33 l0 a2).f0) - 6)))) ++ (⟨#[32]⟩ : ByteArray)) ++ t178).size + 6 ≤ 9223372036854775807 then (if 2 < ((rd_L3 l1 a2).length : Int) then ((spec_ruShow.f k l0 l1 (rd (rd_L3 l1 a2) 2) 0).bind fun t180 => (if (((((((⟨#[105, 102, 32]⟩ : ByteArray) ++ t172) ++ (⟨#[32]⟩ : ByteArray)) ++ (rdOf ByteArray.empty y173 (wrap64 (((rd_T33 l0 a2).f0) - 6)))) ++ (⟨#[32]⟩ : ByteArray)) ++ t178) ++ (⟨#[32, 116, 104, 101, 110, 32]⟩ : ByteArray)).size + t180.size ≤ 9223372036854775807 then (if ((((((((⟨#[105, 102, 32]⟩ : ByteArray) ++ t172) ++ (⟨#[32]⟩ : ByteArray)) ++ (rdOf ByteArray.empty y173 (wrap64 (((rd_T33 l0 a2).f0) - 6)))) ++ (⟨#[32]⟩ : ByteArray)) ++ t178) ++ (⟨#[32, 116, 104, 101, 110, 32]⟩ : ByteArray)) ++ t180).size + 6 ≤ 9223372036854775807 then (if 3 < ((rd_L3 l1 a2).length : Int) then ((spec_ruShow.f k l0 l1 (rd (rd_L3 l1 a2) 3) 0).bind fun t182 => (if (((((((((⟨#[105, 102, 32]⟩ : ByteArray) ++ t172) ++ (⟨#[32]⟩ : ByteArray)) ++ (rdOf ByteArray.empty y173 (wrap64 (((rd_T33 l0 a2).f0) - 6)))) ++ (⟨#[32]⟩ : ByteArray)) ++ t178) ++ (⟨#[32, 116, 104, 101, 110, 32]⟩ : ByteArray)) ++ t180) ++ (⟨#[32, 101, 108, 115, 101, 32]⟩ : ByteArray)).size + t182.size ≤ 9223372036854775807 then (if t165 < a3 then (if 2 + ((((((((((⟨#[105, 102, 32]⟩ : ByteArray) ++ t172) ++ (⟨#[32]⟩ : ByteArray)) ++ (rdOf ByteArray.empty y173 (wrap64 (((rd_T33 l0 a2).f0) - 6)))) ++ (⟨#[32]⟩ : ByteArray)) ++ t178) ++ (⟨#[32, 116, 104, 101, 110, 32]⟩ : ByteArray)) ++ t180) ++ (⟨#[32, 101, 108, 115, 101, 32]⟩ : ByteArray)) ++ t182).size ≤ 9223372036854775807 then (if ((⟨#[40, 32]⟩ : ByteArray) ++ ((((((((((⟨#[105, 102, 32]⟩ : ByteArray) ++ t172) ++ (⟨#[32]⟩ : ByteArray)) ++ (rdOf ByteArray.empty y173 (wrap64 (((rd_T33 l0 a2).f0) - 6)))) ++ (⟨#[32]⟩ : ByteArray)) ++ t178) ++ (⟨#[32, 116, 104, 101, 110, 32]⟩ : ByteArray)) ++ t180) ++ (⟨#[32, 101, 108, 115, 101, 32]⟩ : ByteArray)) ++ t182)).size + 2 ≤ 9223372036854775807 then (some (((⟨#[40, 32]⟩ : ByteArray) ++ ((((((((((⟨#[105, 102, 32]⟩ : ByteArray) ++ t172) ++ (⟨#[32]⟩ : ByteArray)) ++ (rdOf ByteArray.empty y173 (wrap64 (((rd_T33 l0 a2).f0) - 6)))) ++ (⟨#[32]⟩ : ByteArray)) ++ t178) ++ (⟨#[32, 116, 104, 101, 110, 32]⟩ : ByteArray)) ++ t180) ++ (⟨#[32, 101, 108, 115, 101, 32]⟩ : ByteArray)) ++ t182)) ++ (⟨#[32, 41]⟩ : ByteArray))) else (none)) else (none)) else (some ((((((((((⟨#[105, 102, 32]⟩ : ByteArray) ++ t172) ++ (⟨#[32]⟩ : ByteArray)) ++ (rdOf ByteArray.empty y173 (wrap64 (((rd_T33 l0 a2).f0) - 6)))) ++ (⟨#[32]⟩ : ByteArray)) ++ t178) ++ (⟨#[32, 116, 104, 101, 110, 32]⟩ : ByteArray)) ++ t180) ++ (⟨#[32, 101, 108, 115, 101, 32]⟩ : ByteArray)) ++ t182))) else (none))) else (none)) else (none)) else (none))) else (none)) else (none)) else (none))) else (none)) else (none)) else (none)) else (none)) else (none))) else (none)) else (none))) else (none)) else (if 0 < ((rd_L3 l1 a2).length : Int) then ((spec_ruShow.f k l0 l1 (rd (rd_L3 l1 a2) 0) t165).bind fun t184 => (if t184.size + 1 ≤ 9223372036854775807 then ((some (([(⟨#[43]⟩ : ByteArray), (⟨#[45]⟩ : ByteArray), (⟨#[42]⟩ : ByteArray), (⟨#[47]⟩ : ByteArray)] : List ByteArray) : List ByteArray)).bind fun y185 => (if 0 ≤ (wrap64 (((rd_T33 l0 a2).f0) - 2)) then (if (wrap64 (((rd_T33 l0 a2).f0) - 2)) < (y185.length : Int) then (if (t184 ++ (⟨#[32]⟩ : ByteArray)).size + (rdOf ByteArray.empty y185 (wrap64 (((rd_T33 l0 a2).f0) - 2))).size ≤ 9223372036854775807 then (if ((t184 ++ (⟨#[32]⟩ : ByteArray)) ++ (rdOf ByteArray.empty y185 (wrap64 (((rd_T33 l0 a2).f0) - 2)))).size + 1 ≤ 9223372036854775807 then (if 1 < ((rd_L3 l1 a2).length : Int) then ((spec_ruShow.f k l0 l1 (rd (rd_L3 l1 a2) 1) (wrap64 (t165 + 1))).bind fun t190 => (if (((t184 ++ (⟨#[32]⟩ : ByteArray)) ++ (rdOf ByteArray.empty y185 (wrap64 (((rd_T33 l0 a2).f0) - 2)))) ++ (⟨#[32]⟩ : ByteArray)).size + t190.size ≤ 9223372036854775807 then (if t165 < a3 then (if 2 + ((((t184 ++ (⟨#[32]⟩ : ByteArray)) ++ (rdOf ByteArray.empty y185 (wrap64 (((rd_T33 l0 a2).f0) - 2)))) ++ (⟨#[32]⟩ : ByteArray)) ++ t190).size ≤ 9223372036854775807 then (if ((⟨#[40, 32]⟩ : ByteArray) ++ ((((t184 ++ (⟨#[32]⟩ : ByteArray)) ++ (rdOf ByteArray.empty y185 (wrap64 (((rd_T33 l0 a2).f0) - 2)))) ++ (⟨#[32]⟩ : ByteArray)) ++ t190)).size + 2 ≤ 9223372036854775807 then (some (((⟨#[40, 32]⟩ : ByteArray) ++ ((((t184 ++ (⟨#[32]⟩ : ByteArray)) ++ (rdOf ByteArray.empty y185 (wrap64 (((rd_T33 l0 a2).f0) - 2)))) ++ (⟨#[32]⟩ : ByteArray)) ++ t190)) ++ (⟨#[32, 41]⟩ : ByteArray))) else (none)) else (none)) else (some ((((t184 ++ (⟨#[32]⟩ : ByteArray)) ++ (rdOf ByteArray.empty y185 (wrap64 (((rd_T33 l0 a2).f0) - 2)))) ++ (⟨#[32]⟩ : ByteArray)) ++ t190))) else (none))) else (none)) else (none)) else (none)) else (none)) else (none))) else (none))) else (none))))) else (none)) else (none)) else (none)
def spec_ruShow.T1 : Bool × List (List Nat × List Nat) := (true, [([], []), ([], []), ([0, 1], [0, 1]), ([2], [2]), ([], []), ([], []), ([4, 5], [4, 5]), ([6], [6]), ([], []), ([8, 3, 0, 1, 2, 3, 8], [3, 8]), ([7, 9, 0, 1, 2, 3, 4, 5, 6, 7, 8, 9], [7])])
def spec_ruShow.B1 : List Nat := [0, 0, 3, 7, 0, 0, 48, 112, 0, 271, 1023]
theorem spec_ruShow.tab1 : rtab .any (opsOf Tryd.f18 1) = spec_ruShow.T1 := by kernel_rfl
theorem spec_ruShow.bits1 : waitsOk spec_ruShow.T1.2 spec_ruShow.B1 = true := by kernel_rfl
def spec_ruShow.T5 : Bool × List (List Nat × List Nat) := (true, [([], []), ([], []), ([], []), ([2], [2]), ([3], [3]), ([], []), ([0, 1, 4, 5], [0, 1, 4, 5]), ([6], [6]), ([], []), ([], []), ([9], [9]), ([10], [10]), ([8, 11], [8, 11]), ([12], [12]), ([7, 13], [7, 13]), ([14], [14]), ([], []), ([], []), ([], []), ([18], [18]), ([19], [19]), ([], []), ([21], [21]), ([16, 17, 20, 22, 6], [16, 17, 20, 22]), ([15, 23], [15, 23]), ([24, 23, 0, 1, 2, 3, 4, 5, 6, 7, 8, 9, 10, 11, 12, 13, 14, 15, 16, 17, 18, 19, 20, 21, 22, 23, 24], [24])])
def spec_ruShow.B5 : List Nat := [0, 0, 0, 4, 12, 0, 63, 127, 0, 0, 512, 1536, 3840, 7936, 16383, 32767, 0, 0, 0, 262144, 786432, 0, 2097152, 8323199, 16777215, 33554431]
theorem spec_ruShow.tab5 : rtab .any (opsOf Tryd.f18 5) = spec_ruShow.T5 := by kernel_rfl
theorem spec_ruShow.bits5 : waitsOk spec_ruShow.T5.2 spec_ruShow.B5 = true := by kernel_rfl
def spec_ruShow.T11 : Bool × List (List Nat × List Nat) := (true, [([], []), ([], []), ([], []), ([2], [2]), ([3], [3]), ([0, 1, 4], [0, 1, 4]), ([5], [5]), ([6], [6]), ([], []), ([], []), ([9], [9]), ([10], [10]), ([8, 11], [8, 11]), ([12], [12]), ([7, 13], [7, 13]), ([14], [14]), ([], []), ([], []), ([], []), ([18], [18]), ([19], [19]), ([16, 17, 20, 5], [16, 17, 20]), ([15, 21], [15, 21]), ([22], [22]), ([], []), ([], []), ([], []), ([26], [26]), ([27], [27]), ([24, 25, 28, 21], [24, 25, 28]), ([23, 29], [23, 29]), ([30], [30]), ([], []), ([], []), ([], []), ([34], [34]), ([35], [35]), ([32, 33, 36, 29], [32, 33, 36]), ([31, 37], [31, 37]), ([38, 37, 0, 1, 2, 3, 4, 5, 6, 7, 8, 9, 10, 11, 12, 13, 14, 15, 16, 17, 18, 19, 20, 21, 22, 23, 24, 25, 26, 27, 28, 29, 30, 31, 32, 33, 34, 35, 36, 37, 38], [38])])
def spec_ruShow.B11 : List Nat := [0, 0, 0, 4, 12, 31, 63, 127, 0, 0, 512, 1536, 3840, 7936, 16383, 32767, 0, 0, 0, 262144, 786432, 2031679, 4194303, 8388607, 0, 0, 0, 67108864, 201326592, 524222527, 1073741823, 2147483647, 0, 0, 0, 17179869184, 51539607552, 134205079615, 274877906943, 549755813887]
theorem spec_ruShow.tab11 : rtab .any (opsOf Tryd.f18 11) = spec_ruShow.T11 := by kernel_rfl
theorem spec_ruShow.bits11 : waitsOk spec_ruShow.T11.2 spec_ruShow.B11 = true := by kernel_rfl
set_option maxHeartbeats 60000000 in
set_option maxRecDepth 100000 in
theorem spec_ruShow.calls (k : Nat) : ∀ (A0 : Option Addr) (c0 : Nat) (l0 : List (S33)) (A1 : Option Addr) (c1 : Nat) (l1 : List (List Int)) (a2 : Int) (a3 : Int) (r : ByteArray) (w : World) (hr0 : Kd.C k33 w A0 l0.length l0) (hc0 : l0.length ≤ c0) (hr1 : Kd.C (Kd.slice 3 (Kd.int .i64)) w A1 l1.length l1) (hc1 : l1.length ≤ c1) (h : spec_ruShow.f k l0 l1 a2 a3 = some r),
  Calls Tryd.prog 18 #[.slice A0 l0.length c0, .slice A1 l1.length c1, .int .i64 a2, .int .i64 a3] w fun e w' => e = .returned (.string r) ∧ Below w.heap.size w w' := by
 induction k using Nat.strongRecOn with
 | _ k ih =>
 intro A0 c0 l0 A1 c1 l1 a2 a3 r w hr0 hc0 hr1 hc1 h
 cases k with
 | zero => exact absurd h (by simp [spec_ruShow.f])
 | succ k =>
 simp only [spec_ruShow.f] at h
 have hu33 := Tryd.underlying33
 have HR0 := Aside0.mk hr0
 have HC0 := Aside0.mk hc0
 clear hr0 hc0
 have HR1 := Aside0.mk hr1
 have HC1 := Aside0.mk hc1
 clear hr1 hc1
 have HB := Aside0.mk (Below.refl w.heap.size w)
 have H := h
 clear h
 by_cases c5 : 0 ≤ a2
 case neg => rw [if_neg c5] at H; exact absurd H (by simp)
 rw [if_pos c5] at H
 have c5b0 := decide_eq_true c5
 clear c5
 by_cases c6 : a2 < (l0.length : Int)
 case neg => rw [if_neg c6] at H; exact absurd H (by simp)
 rw [if_pos c6] at H
 have c6b0 := decide_eq_true c6
 clear c6
 by_cases c7 : a2 < (l1.length : Int)
 case neg => rw [if_neg c7] at H; exact absurd H (by simp)
 rw [if_pos c7] at H
 have c7b0 := decide_eq_true c7
 clear c7
 replace H := Option.bind_eq_some_iff.mp H
 obtain ⟨t165, A80, H⟩ := H
 try dsimp only at H
 have A8 := Aside0.mk A80
 clear A80
 by_cases c9 : t165 = 3
 ·rw [if_pos c9] at H
  have c9b0 : (t165 == 3) = true := beq_iff_eq.mpr c9
  have c9b1 : (t165 != 3) = false := bne_eq_false_iff_eq.mpr c9
  clear c9
  replace H := Option.bind_eq_some_iff.mp H
  obtain ⟨t166, A100, H⟩ := H
  try dsimp only at H
  have A10 := Aside0.mk A100
  clear A100
  by_cases c11 : ((rd_T33 l0 a2).f0) = 1
  ·rw [if_pos c11] at H
   have c11b0 : (((rd_T33 l0 a2).f0) == 1) = true := beq_iff_eq.mpr c11
   have c11b1 : (((rd_T33 l0 a2).f0) != 1) = false := bne_eq_false_iff_eq.mpr c11
   clear c11
   replace H := Option.bind_eq_some_iff.mp H
   obtain ⟨t167, A120, H⟩ := H
   try dsimp only at H
   have A12 := Aside0.mk A120
   clear A120
   by_cases c13 : 0 ≤ ((rd_T33 l0 a2).f1)
   case neg => rw [if_neg c13] at H; exact absurd H (by simp)
   rw [if_pos c13] at H
   have c13b0 := decide_eq_true c13
   clear c13
   by_cases c14 : ((rd_T33 l0 a2).f1) < (t167.length : Int)
   case neg => rw [if_neg c14] at H; exact absurd H (by simp)
   rw [if_pos c14] at H
   have c14b0 := decide_eq_true c14
   clear c14
   by_cases c15 : t165 < a3
   ·rw [if_pos c15] at H
    have c15b0 := decide_eq_true c15
    clear c15
    by_cases c16 : 2 + (rdOf ByteArray.empty t167 ((rd_T33 l0 a2).f1)).size ≤ 9223372036854775807
    case neg => rw [if_neg c16] at H; exact absurd H (by simp)
    rw [if_pos c16] at H
    have c16b0 := eq_true c16
    have c16b1 := decide_eq_true c16
    try have c16b2 : (9223372036854775807 < 2 + (rdOf ByteArray.empty t167 ((rd_T33 l0 a2).f1)).size) = False := eq_false (Nat.not_lt.2 c16)
    by_cases c17 : ((⟨#[40, 32]⟩ : ByteArray) ++ (rdOf ByteArray.empty t167 ((rd_T33 l0 a2).f1))).size + 2 ≤ 9223372036854775807
    case neg => rw [if_neg c17] at H; exact absurd H (by simp)
    refine ?z1_
    let rec p1_ : type_of% ?z1_ := by(
    rw [if_pos c17] at H
    have c17b0 := eq_true c17
    have c17b1 := decide_eq_true c17
    try have c17b2 : (9223372036854775807 < ((⟨#[40, 32]⟩ : ByteArray) ++ (rdOf ByteArray.empty t167 ((rd_T33 l0 a2).f1))).size + 2) = False := eq_false (Nat.not_lt.2 c17)
    have c17b3 : (9223372036854775807 < 2 + (rdOf ByteArray.empty t167 ((rd_T33 l0 a2).f1)).size + 2) = False := eq_false (Nat.not_lt.2 (by have h_ := c17; simp only [ByteArray.size_append] at h_; exact h_))
    obtain rfl := Option.some.inj H
    go_enter Tryd.func18, Tryd.ntmps18
    try go_wp2
    replace HB := Aside0.mk (below_drew1 HB.out)
    have p162 : 0 ≤ (a2 : Int) := of_decide_eq_true (by first | (with_reducible assumption) | assumption)
    have q162 : a2 < (l0.length : Int) := of_decide_eq_true (by first | (with_reducible assumption) | assumption)
    obtain ⟨ad162, e162, hx162_0, hx162_1⟩ := at_T33 HR0.out a2 p162 q162
    have hw162_1 := hx162_1
    have hw162_0 := hx162_0
    cases e162
    replace hx162_0 := hc_ HB hx162_0
    replace hx162_1 := hc_ HB hx162_1
    replace p162 := eq_true p162
    replace q162 := eq_true q162
    have p163 : 0 ≤ (a2 : Int) := of_decide_eq_true (by first | (with_reducible assumption) | assumption)
    have q163 : a2 < (l1.length : Int) := of_decide_eq_true (by first | (with_reducible assumption) | assumption)
    obtain ⟨ad163, A163_0, c163_0, e163, hx163_0, hl163_0, hi163_0⟩ := at_L3 HR1.out a2 p163 q163
    have hw163_0 := hx163_0
    cases e163
    replace hx163_0 := hc_ HB hx163_0
    have HR163_0 := Aside0.mk hi163_0
    have HC163_0 := Aside0.mk hl163_0
    clear hi163_0 hl163_0
    replace p163 := eq_true p163
    replace q163 := eq_true q163
    refine start_ (n := 11) (S := fun w' => w'.cell? (ad162.add ((a2).toNat * 2)) = some (.int .i64 ((rd_T33 l0 a2).f0)) ∧ w'.cell? ⟨(ad162.add ((a2).toNat * 2)).block, (ad162.add ((a2).toNat * 2)).off + 1, none⟩ = some (.int .i64 ((rd_T33 l0 a2).f1)) ∧ w'.cell? (ad163.add (a2).toNat) = some (.slice A163_0 (rd_L3 l1 a2).length c163_0)) (ds := []) (bb 11 0) (by kernel_rfl) rfl rfl ⟨((HB.out.cell (World.block_lt_of_cell? w _ hw162_0)).trans hw162_0), ((HB.out.cell (World.block_lt_of_cell? w _ hw162_1)).trans hw162_1), ((HB.out.cell (World.block_lt_of_cell? w _ hw163_0)).trans hw163_0)⟩ (fun hHeld => ?_); refine with_tabW spec_ruShow.tab1 spec_ruShow.bits1 (fun HT_ HW_ => ?_)
    generalize w.drew = w18 at HB HR163_0 hx162_0 hx162_1 hx163_0 hHeld ⊢
    refine pl_ HT_ 0 (some 13) (bb 11 1) (h := ?_)
    refine pl_ HT_ 1 (some 14) (bb 11 3) (h := ?_)
    refine pl_ HT_ 2 (some 15) (bb 11 7) (h := ?_)
    refine pl_ HT_ 4 (some 17) (bb 11 23) (h := ?_)
    refine pl_ HT_ 5 (some 18) (bb 11 55) (h := ?_)
    refine pl_ HT_ 6 (some 19) (bb 11 119) (h := ?_)
    refine tk_ HT_ HW_ hHeld 3 (some 16) (bb 11 127) (h := ?_)
    refine tk_ HT_ HW_ hHeld 7 (some 20) (bb 11 255) (h := ?_)
    refine one_ (i := 8) (N := some 9) (bb 11 511) rfl rfl (one_of HT_.out (by kernel_rfl)) (by decide) (fun K hK => ?_)
    refine box_step ?hg (N := 9) ?hd (cs := #[.int .i64 0, .int .i64 0]) (t := 33) ?hr ?_; (case hd => rfl); (case hg => rfl); (case hr => first | (go_simp; done) | (go_simp; rfl))
    intro gb164 hg w19 hbox hb
    have n0_ := Aside0.mk (below_step (hb_ HB) hb)
    have n1_ := Aside0.mk (hbox)
    have n2_ := Aside0.mk ((by rw [hg]; exact (below_size (hb_ HB)) : w.heap.size ≤ gb164))
    have n3_ := Aside0.mk ((by rw [hg]; exact (below_size (hb_ HB)) : w.heap.size ≤ gb164))
    clear HB
    have HB := n0_
    have BK164 := n1_
    have GW164 := n2_
    have GE164 := n3_
    clear n0_ n1_ n2_ n3_
    clear hb hbox hg
    refine hK.out _ _ ⟨((HB.out.cell (World.block_lt_of_cell? w _ hw162_0)).trans hw162_0), ((HB.out.cell (World.block_lt_of_cell? w _ hw162_1)).trans hw162_1), ((HB.out.cell (World.block_lt_of_cell? w _ hw163_0)).trans hw163_0)⟩ (fun hHeld => ?_)
    clear hK K
    refine nm_ (some 9) (h := ?_)
    refine one_ (i := 9) (N := none) (bb 11 1023) rfl rfl (one_of HT_.out (by kernel_rfl)) (by decide) (fun K hK => ?_)
    have hs20 : w19.cell? ⟨gb164, 0, none⟩ = some (.int .i64 0) := (blk_cell BK164.out 0).trans rfl
    have hfs20 := blk_frozen BK164.out 0
    have hs21 : w19.cell? ⟨gb164, 1, none⟩ = some (.int .i64 0) := (blk_cell BK164.out 1).trans rfl
    have hfs21 := blk_frozen BK164.out 1
    refine skip_ (w1 := ?_) (by rfl) rfl ?_ ?_
    rotate_left
    ·go_simp
     rfl
    refine hK.out _ _ ⟨((cell_far (p := ⟨gb164, _, none⟩) (by first | exact Nat.ne_of_lt (Nat.lt_of_lt_of_le (by have := World.block_lt_of_cell? _ _ hw162_0; first | rwa [add_block] at this | exact this) GW164.out) | (rw [add_block]; exact Nat.ne_of_lt (Nat.lt_of_lt_of_le (by have := World.block_lt_of_cell? _ _ hw162_0; first | rwa [add_block] at this | exact this) GW164.out)) | (show (Addr.add _ _).block ≠ _; rw [add_block]; exact Nat.ne_of_lt (Nat.lt_of_lt_of_le (by have := World.block_lt_of_cell? _ _ hw162_0; first | rwa [add_block] at this | exact this) GW164.out)) | (dsimp only; exact Nat.ne_of_lt (Nat.lt_of_lt_of_le (by have := World.block_lt_of_cell? _ _ hw162_0; first | rwa [add_block] at this | exact this) GW164.out))) _).trans (((cell_far (p := ⟨gb164, _, none⟩) (by first | exact Nat.ne_of_lt (Nat.lt_of_lt_of_le (by have := World.block_lt_of_cell? _ _ hw162_0; first | rwa [add_block] at this | exact this) GW164.out) | (rw [add_block]; exact Nat.ne_of_lt (Nat.lt_of_lt_of_le (by have := World.block_lt_of_cell? _ _ hw162_0; first | rwa [add_block] at this | exact this) GW164.out)) | (show (Addr.add _ _).block ≠ _; rw [add_block]; exact Nat.ne_of_lt (Nat.lt_of_lt_of_le (by have := World.block_lt_of_cell? _ _ hw162_0; first | rwa [add_block] at this | exact this) GW164.out)) | (dsimp only; exact Nat.ne_of_lt (Nat.lt_of_lt_of_le (by have := World.block_lt_of_cell? _ _ hw162_0; first | rwa [add_block] at this | exact this) GW164.out))) _).trans (hHeld.1)))), ((cell_far (p := ⟨gb164, _, none⟩) (by first | exact Nat.ne_of_lt (Nat.lt_of_lt_of_le (by have := World.block_lt_of_cell? _ _ hw162_1; first | rwa [add_block] at this | exact this) GW164.out) | (rw [add_block]; exact Nat.ne_of_lt (Nat.lt_of_lt_of_le (by have := World.block_lt_of_cell? _ _ hw162_1; first | rwa [add_block] at this | exact this) GW164.out)) | (show (Addr.add _ _).block ≠ _; rw [add_block]; exact Nat.ne_of_lt (Nat.lt_of_lt_of_le (by have := World.block_lt_of_cell? _ _ hw162_1; first | rwa [add_block] at this | exact this) GW164.out)) | (dsimp only; exact Nat.ne_of_lt (Nat.lt_of_lt_of_le (by have := World.block_lt_of_cell? _ _ hw162_1; first | rwa [add_block] at this | exact this) GW164.out))) _).trans (((cell_far (p := ⟨gb164, _, none⟩) (by first | exact Nat.ne_of_lt (Nat.lt_of_lt_of_le (by have := World.block_lt_of_cell? _ _ hw162_1; first | rwa [add_block] at this | exact this) GW164.out) | (rw [add_block]; exact Nat.ne_of_lt (Nat.lt_of_lt_of_le (by have := World.block_lt_of_cell? _ _ hw162_1; first | rwa [add_block] at this | exact this) GW164.out)) | (show (Addr.add _ _).block ≠ _; rw [add_block]; exact Nat.ne_of_lt (Nat.lt_of_lt_of_le (by have := World.block_lt_of_cell? _ _ hw162_1; first | rwa [add_block] at this | exact this) GW164.out)) | (dsimp only; exact Nat.ne_of_lt (Nat.lt_of_lt_of_le (by have := World.block_lt_of_cell? _ _ hw162_1; first | rwa [add_block] at this | exact this) GW164.out))) _).trans (hHeld.2.1)))), ((cell_far (p := ⟨gb164, _, none⟩) (by first | exact Nat.ne_of_lt (Nat.lt_of_lt_of_le (by have := World.block_lt_of_cell? _ _ hw163_0; first | rwa [add_block] at this | exact this) GW164.out) | (rw [add_block]; exact Nat.ne_of_lt (Nat.lt_of_lt_of_le (by have := World.block_lt_of_cell? _ _ hw163_0; first | rwa [add_block] at this | exact this) GW164.out)) | (show (Addr.add _ _).block ≠ _; rw [add_block]; exact Nat.ne_of_lt (Nat.lt_of_lt_of_le (by have := World.block_lt_of_cell? _ _ hw163_0; first | rwa [add_block] at this | exact this) GW164.out)) | (dsimp only; exact Nat.ne_of_lt (Nat.lt_of_lt_of_le (by have := World.block_lt_of_cell? _ _ hw163_0; first | rwa [add_block] at this | exact this) GW164.out))) _).trans (((cell_far (p := ⟨gb164, _, none⟩) (by first | exact Nat.ne_of_lt (Nat.lt_of_lt_of_le (by have := World.block_lt_of_cell? _ _ hw163_0; first | rwa [add_block] at this | exact this) GW164.out) | (rw [add_block]; exact Nat.ne_of_lt (Nat.lt_of_lt_of_le (by have := World.block_lt_of_cell? _ _ hw163_0; first | rwa [add_block] at this | exact this) GW164.out)) | (show (Addr.add _ _).block ≠ _; rw [add_block]; exact Nat.ne_of_lt (Nat.lt_of_lt_of_le (by have := World.block_lt_of_cell? _ _ hw163_0; first | rwa [add_block] at this | exact this) GW164.out)) | (dsimp only; exact Nat.ne_of_lt (Nat.lt_of_lt_of_le (by have := World.block_lt_of_cell? _ _ hw163_0; first | rwa [add_block] at this | exact this) GW164.out))) _).trans (hHeld.2.2))))⟩ (fun hHeld => ?_)
    clear hK K
    refine pl_ HT_ 10 (some 10) (bb 11 2047) (h := ?_)
    refine done_ (done_of HT_.out (by kernel_rfl)) ?_
    obtain ⟨hcz22_0, hcz22_1, hfz22_0, hfz22_1⟩ := bx2 BK164
    try go_wp2_with (first | ((with_reducible refine gate_callee (f := 26) rfl ?_); refine gl_ (some 23) Tryd.func26 #[.int .i64 ((rd_T33 l0 a2).f0)] rfl rfl rfl ?_; (with_reducible refine (spec_ruLevel.calls ((rd_T33 l0 a2).f0) t165 _ A8.out).mono ?_); rintro e w' ⟨rfl, ⟨nd, rfl⟩⟩; refine ⟨_, rfl, ?_⟩) | ((with_reducible refine gate_callee (f := 27) rfl ?_); refine gl_ (some 54) Tryd.func27 #[.int .i64 ((rd_T33 l0 a2).f1)] rfl rfl rfl ?_; (with_reducible refine (spec_l1Num.calls k ((rd_T33 l0 a2).f1) t166 _ A10.out).mono ?_); rintro e w23 ⟨rfl, hb⟩; refine ⟨_, rfl, ?_⟩; replace BK164 := Aside0.mk (blk_below (g := gb164) (o := .cells #[.int .i64 ((rd_T33 l0 a2).f0), .int .i64 ((rd_T33 l0 a2).f1)] 33 (0, 0)) (kpq_ (kputs BK164 [(0, _), (1, _)])) hb); replace HB := hbs_ HB hb; obtain ⟨hcz24_0, hcz24_1, hfz24_0, hfz24_1⟩ := bx2 BK164))
    replace BK164 := Aside0.mk (blk_drew BK164.out)
    replace HB := Aside0.mk (below_drew1 HB.out)
    refine start_ (n := 6) (S := fun w' => w'.cell? ⟨gb164, 0, none⟩ = some (.int .i64 ((rd_T33 l0 a2).f0)) ∧ w'.cell? ⟨gb164, 1, none⟩ = some (.int .i64 ((rd_T33 l0 a2).f1))) (ds := []) (bb 6 0) (by kernel_rfl) rfl rfl ⟨(blk_cell BK164.out 0).trans rfl, (blk_cell BK164.out 1).trans rfl⟩ (fun hHeld => ?_)
    generalize w23.drew = w25 at BK164 HB hHeld ⊢
    refine pure_ (i := 1) (N := some 59) (v := ?_) (a' := ?_) (bb 6 2) rfl rfl (by kernel_rfl) (fun _ _ _ h => h) (Or.inl ⟨by rfl, ?_⟩) ?_ ?_
    rotate_left
    ·intro w'
     go_simp
     with_reducible rfl
    rotate_left
    ·simp only [Act.put, List.setIfInBounds_toArray, List.set_cons_zero, List.set_cons_succ, i64_w, i32_w]
     rfl
    refine take_ (i := 2) (N := some 60) (v := ?_) (a' := ?_) (bb 6 6) rfl rfl (by kernel_rfl) (fun _ _ _ h => h) (Or.inl ⟨by rfl, ?_⟩) hHeld ?_ ?_
    rotate_left
    ·rintro w' ⟨s0, s1⟩
     go_simp
     with_reducible rfl
    rotate_left
    ·simp only [Act.put, List.setIfInBounds_toArray, List.set_cons_zero, List.set_cons_succ, i64_w, i32_w]
     rfl
    refine one_ (i := 0) (N := some 58) (bb 6 7) rfl rfl (by kernel_rfl) (by decide) (fun K hK => ?_)
    refine goes_ Tryd.func28 (by kernel_rfl) rfl #[] (by rfl) rfl rfl (by (try simp only [List.map_toArray, List.map_cons, List.map_nil]); first | done | rfl | (simp only [List.length_drop, List.length_take]; rfl)) ?_
    with_reducible refine (spec_ruFields.calls  t167 _ A12.out).mono ?_
    rintro e w26 ⟨v168, rfl, ho0, hb⟩
    refine ⟨_, rfl, ?_⟩
    have HO169 := Aside0.mk (Kd.R_lower ho0 (below_size (hb_ HB)))
    replace BK164 := Aside0.mk (blk_below (kp_ BK164) hb)
    replace HB := Aside0.mk (below_step (hb_ HB) hb)
    obtain ⟨Ao27, co27, eo27⟩ := Kd.R_slice HO169.out
    (first | subst eo27 | (injection eo27 with f1_ f2_ f3_; have f4_ := f1_.symm; have f5_ := f3_.symm; clear f1_ f2_ f3_; subst f4_; subst f5_))
    have p170 : 0 ≤ (((rd_T33 l0 a2).f1) : Int) := of_decide_eq_true (by first | (with_reducible assumption) | assumption)
    have q170 : ((rd_T33 l0 a2).f1) < (t167.length : Int) := of_decide_eq_true (by first | (with_reducible assumption) | assumption)
    obtain ⟨ad170, e170, hx170_0⟩ := Kd.at_string (Kd.R_reads' HO169.out).2.2 ((rd_T33 l0 a2).f1) p170 q170
    cases e170
    replace p170 := eq_true p170
    replace q170 := eq_true q170
    refine hK.out _ _ ⟨(blk_cell BK164.out 0).trans rfl, (blk_cell BK164.out 1).trans rfl⟩ (fun hHeld => ?_)
    refine addS_ (E := fun w' => w'.cell? (ad170.add (((rd_T33 l0 a2).f1)).toNat) = some (.string (rdOf ByteArray.empty t167 ((rd_T33 l0 a2).f1)))) hHeld hx170_0 ?_
    have hHeld := And.intro hx170_0 hHeld
    clear hK K
    refine nm_ (some 58) (h := ?_)
    refine pure_ (i := 3) (N := some 61) (v := ?_) (a' := ?_) (bb 6 15) rfl rfl (by kernel_rfl) (fun _ _ _ h => h) (Or.inl ⟨by rfl, ?_⟩) ?_ ?_
    rotate_left
    ·intro w'
     go_simp
     with_reducible rfl
    rotate_left
    ·simp only [Act.put, List.setIfInBounds_toArray, List.set_cons_zero, List.set_cons_succ, i64_w, i32_w]
     rfl
    refine take_ (i := 4) (N := some 62) (v := ?_) (a' := ?_) (bb 6 31) rfl rfl (by kernel_rfl) (fun _ _ _ h => h) (Or.inl ⟨by rfl, ?_⟩) hHeld ?_ ?_
    rotate_left
    ·rintro w' ⟨s0, s1, s2⟩
     go_simp
     with_reducible rfl
    rotate_left
    ·simp only [Act.put, List.setIfInBounds_toArray, List.set_cons_zero, List.set_cons_succ, i64_w, i32_w]
     rfl
    refine pure_ (i := 5) (N := some 12) (v := ?_) (a' := ?_) (bb 6 63) rfl rfl (by kernel_rfl) (fun _ _ _ h => h) (Or.inl ⟨by rfl, ?_⟩) ?_ ?_
    rotate_left
    ·intro w'
     go_simp
     with_reducible rfl
    rotate_left
    ·simp only [Act.put, List.setIfInBounds_toArray, List.set_cons_zero, List.set_cons_succ, i64_w, i32_w]
     rfl
    refine done_ (by kernel_rfl) ?_
    try go_wp2
    go_ret
    exact ad_ (hb_ HB)
    )
    exact p1_
   refine ?z2_
   let rec p2_ : type_of% ?z2_ := by(
   rw [if_neg c15] at H
   have c15b0 := decide_eq_false c15
   clear c15
   obtain rfl := Option.some.inj H
   go_enter Tryd.func18, Tryd.ntmps18
   try go_wp2
   replace HB := Aside0.mk (below_drew1 HB.out)
   have p162 : 0 ≤ (a2 : Int) := of_decide_eq_true (by first | (with_reducible assumption) | assumption)
   have q162 : a2 < (l0.length : Int) := of_decide_eq_true (by first | (with_reducible assumption) | assumption)
   obtain ⟨ad162, e162, hx162_0, hx162_1⟩ := at_T33 HR0.out a2 p162 q162
   have hw162_1 := hx162_1
   have hw162_0 := hx162_0
   cases e162
   replace hx162_0 := hc_ HB hx162_0
   replace hx162_1 := hc_ HB hx162_1
   replace p162 := eq_true p162
   replace q162 := eq_true q162
   have p163 : 0 ≤ (a2 : Int) := of_decide_eq_true (by first | (with_reducible assumption) | assumption)
   have q163 : a2 < (l1.length : Int) := of_decide_eq_true (by first | (with_reducible assumption) | assumption)
   obtain ⟨ad163, A163_0, c163_0, e163, hx163_0, hl163_0, hi163_0⟩ := at_L3 HR1.out a2 p163 q163
   have hw163_0 := hx163_0
   cases e163
   replace hx163_0 := hc_ HB hx163_0
   have HR163_0 := Aside0.mk hi163_0
   have HC163_0 := Aside0.mk hl163_0
   clear hi163_0 hl163_0
   replace p163 := eq_true p163
   replace q163 := eq_true q163
   refine start_ (n := 11) (S := fun w' => w'.cell? (ad162.add ((a2).toNat * 2)) = some (.int .i64 ((rd_T33 l0 a2).f0)) ∧ w'.cell? ⟨(ad162.add ((a2).toNat * 2)).block, (ad162.add ((a2).toNat * 2)).off + 1, none⟩ = some (.int .i64 ((rd_T33 l0 a2).f1)) ∧ w'.cell? (ad163.add (a2).toNat) = some (.slice A163_0 (rd_L3 l1 a2).length c163_0)) (ds := []) (bb 11 0) (by kernel_rfl) rfl rfl ⟨((HB.out.cell (World.block_lt_of_cell? w _ hw162_0)).trans hw162_0), ((HB.out.cell (World.block_lt_of_cell? w _ hw162_1)).trans hw162_1), ((HB.out.cell (World.block_lt_of_cell? w _ hw163_0)).trans hw163_0)⟩ (fun hHeld => ?_); refine with_tabW spec_ruShow.tab1 spec_ruShow.bits1 (fun HT_ HW_ => ?_)
   generalize w.drew = w28 at HB HR163_0 hx162_0 hx162_1 hx163_0 hHeld ⊢
   refine pl_ HT_ 0 (some 13) (bb 11 1) (h := ?_)
   refine pl_ HT_ 1 (some 14) (bb 11 3) (h := ?_)
   refine pl_ HT_ 2 (some 15) (bb 11 7) (h := ?_)
   refine pl_ HT_ 4 (some 17) (bb 11 23) (h := ?_)
   refine pl_ HT_ 5 (some 18) (bb 11 55) (h := ?_)
   refine pl_ HT_ 6 (some 19) (bb 11 119) (h := ?_)
   refine tk_ HT_ HW_ hHeld 3 (some 16) (bb 11 127) (h := ?_)
   refine tk_ HT_ HW_ hHeld 7 (some 20) (bb 11 255) (h := ?_)
   refine one_ (i := 8) (N := some 9) (bb 11 511) rfl rfl (one_of HT_.out (by kernel_rfl)) (by decide) (fun K hK => ?_)
   refine box_step ?hg (N := 9) ?hd (cs := #[.int .i64 0, .int .i64 0]) (t := 33) ?hr ?_; (case hd => rfl); (case hg => rfl); (case hr => first | (go_simp; done) | (go_simp; rfl))
   intro gb164 hg w29 hbox hb
   have n0_ := Aside0.mk (below_step (hb_ HB) hb)
   have n1_ := Aside0.mk (hbox)
   have n2_ := Aside0.mk ((by rw [hg]; exact (below_size (hb_ HB)) : w.heap.size ≤ gb164))
   have n3_ := Aside0.mk ((by rw [hg]; exact (below_size (hb_ HB)) : w.heap.size ≤ gb164))
   clear HB
   have HB := n0_
   have BK164 := n1_
   have GW164 := n2_
   have GE164 := n3_
   clear n0_ n1_ n2_ n3_
   clear hb hbox hg
   refine hK.out _ _ ⟨((HB.out.cell (World.block_lt_of_cell? w _ hw162_0)).trans hw162_0), ((HB.out.cell (World.block_lt_of_cell? w _ hw162_1)).trans hw162_1), ((HB.out.cell (World.block_lt_of_cell? w _ hw163_0)).trans hw163_0)⟩ (fun hHeld => ?_)
   clear hK K
   refine nm_ (some 9) (h := ?_)
   refine one_ (i := 9) (N := none) (bb 11 1023) rfl rfl (one_of HT_.out (by kernel_rfl)) (by decide) (fun K hK => ?_)
   have hs30 : w29.cell? ⟨gb164, 0, none⟩ = some (.int .i64 0) := (blk_cell BK164.out 0).trans rfl
   have hfs30 := blk_frozen BK164.out 0
   have hs31 : w29.cell? ⟨gb164, 1, none⟩ = some (.int .i64 0) := (blk_cell BK164.out 1).trans rfl
   have hfs31 := blk_frozen BK164.out 1
   refine skip_ (w1 := ?_) (by rfl) rfl ?_ ?_
   rotate_left
   ·go_simp
    rfl
   refine hK.out _ _ ⟨((cell_far (p := ⟨gb164, _, none⟩) (by first | exact Nat.ne_of_lt (Nat.lt_of_lt_of_le (by have := World.block_lt_of_cell? _ _ hw162_0; first | rwa [add_block] at this | exact this) GW164.out) | (rw [add_block]; exact Nat.ne_of_lt (Nat.lt_of_lt_of_le (by have := World.block_lt_of_cell? _ _ hw162_0; first | rwa [add_block] at this | exact this) GW164.out)) | (show (Addr.add _ _).block ≠ _; rw [add_block]; exact Nat.ne_of_lt (Nat.lt_of_lt_of_le (by have := World.block_lt_of_cell? _ _ hw162_0; first | rwa [add_block] at this | exact this) GW164.out)) | (dsimp only; exact Nat.ne_of_lt (Nat.lt_of_lt_of_le (by have := World.block_lt_of_cell? _ _ hw162_0; first | rwa [add_block] at this | exact this) GW164.out))) _).trans (((cell_far (p := ⟨gb164, _, none⟩) (by first | exact Nat.ne_of_lt (Nat.lt_of_lt_of_le (by have := World.block_lt_of_cell? _ _ hw162_0; first | rwa [add_block] at this | exact this) GW164.out) | (rw [add_block]; exact Nat.ne_of_lt (Nat.lt_of_lt_of_le (by have := World.block_lt_of_cell? _ _ hw162_0; first | rwa [add_block] at this | exact this) GW164.out)) | (show (Addr.add _ _).block ≠ _; rw [add_block]; exact Nat.ne_of_lt (Nat.lt_of_lt_of_le (by have := World.block_lt_of_cell? _ _ hw162_0; first | rwa [add_block] at this | exact this) GW164.out)) | (dsimp only; exact Nat.ne_of_lt (Nat.lt_of_lt_of_le (by have := World.block_lt_of_cell? _ _ hw162_0; first | rwa [add_block] at this | exact this) GW164.out))) _).trans (hHeld.1)))), ((cell_far (p := ⟨gb164, _, none⟩) (by first | exact Nat.ne_of_lt (Nat.lt_of_lt_of_le (by have := World.block_lt_of_cell? _ _ hw162_1; first | rwa [add_block] at this | exact this) GW164.out) | (rw [add_block]; exact Nat.ne_of_lt (Nat.lt_of_lt_of_le (by have := World.block_lt_of_cell? _ _ hw162_1; first | rwa [add_block] at this | exact this) GW164.out)) | (show (Addr.add _ _).block ≠ _; rw [add_block]; exact Nat.ne_of_lt (Nat.lt_of_lt_of_le (by have := World.block_lt_of_cell? _ _ hw162_1; first | rwa [add_block] at this | exact this) GW164.out)) | (dsimp only; exact Nat.ne_of_lt (Nat.lt_of_lt_of_le (by have := World.block_lt_of_cell? _ _ hw162_1; first | rwa [add_block] at this | exact this) GW164.out))) _).trans (((cell_far (p := ⟨gb164, _, none⟩) (by first | exact Nat.ne_of_lt (Nat.lt_of_lt_of_le (by have := World.block_lt_of_cell? _ _ hw162_1; first | rwa [add_block] at this | exact this) GW164.out) | (rw [add_block]; exact Nat.ne_of_lt (Nat.lt_of_lt_of_le (by have := World.block_lt_of_cell? _ _ hw162_1; first | rwa [add_block] at this | exact this) GW164.out)) | (show (Addr.add _ _).block ≠ _; rw [add_block]; exact Nat.ne_of_lt (Nat.lt_of_lt_of_le (by have := World.block_lt_of_cell? _ _ hw162_1; first | rwa [add_block] at this | exact this) GW164.out)) | (dsimp only; exact Nat.ne_of_lt (Nat.lt_of_lt_of_le (by have := World.block_lt_of_cell? _ _ hw162_1; first | rwa [add_block] at this | exact this) GW164.out))) _).trans (hHeld.2.1)))), ((cell_far (p := ⟨gb164, _, none⟩) (by first | exact Nat.ne_of_lt (Nat.lt_of_lt_of_le (by have := World.block_lt_of_cell? _ _ hw163_0; first | rwa [add_block] at this | exact this) GW164.out) | (rw [add_block]; exact Nat.ne_of_lt (Nat.lt_of_lt_of_le (by have := World.block_lt_of_cell? _ _ hw163_0; first | rwa [add_block] at this | exact this) GW164.out)) | (show (Addr.add _ _).block ≠ _; rw [add_block]; exact Nat.ne_of_lt (Nat.lt_of_lt_of_le (by have := World.block_lt_of_cell? _ _ hw163_0; first | rwa [add_block] at this | exact this) GW164.out)) | (dsimp only; exact Nat.ne_of_lt (Nat.lt_of_lt_of_le (by have := World.block_lt_of_cell? _ _ hw163_0; first | rwa [add_block] at this | exact this) GW164.out))) _).trans (((cell_far (p := ⟨gb164, _, none⟩) (by first | exact Nat.ne_of_lt (Nat.lt_of_lt_of_le (by have := World.block_lt_of_cell? _ _ hw163_0; first | rwa [add_block] at this | exact this) GW164.out) | (rw [add_block]; exact Nat.ne_of_lt (Nat.lt_of_lt_of_le (by have := World.block_lt_of_cell? _ _ hw163_0; first | rwa [add_block] at this | exact this) GW164.out)) | (show (Addr.add _ _).block ≠ _; rw [add_block]; exact Nat.ne_of_lt (Nat.lt_of_lt_of_le (by have := World.block_lt_of_cell? _ _ hw163_0; first | rwa [add_block] at this | exact this) GW164.out)) | (dsimp only; exact Nat.ne_of_lt (Nat.lt_of_lt_of_le (by have := World.block_lt_of_cell? _ _ hw163_0; first | rwa [add_block] at this | exact this) GW164.out))) _).trans (hHeld.2.2))))⟩ (fun hHeld => ?_)
   clear hK K
   refine pl_ HT_ 10 (some 10) (bb 11 2047) (h := ?_)
   refine done_ (done_of HT_.out (by kernel_rfl)) ?_
   obtain ⟨hcz32_0, hcz32_1, hfz32_0, hfz32_1⟩ := bx2 BK164
   try go_wp2_with (first | ((with_reducible refine gate_callee (f := 26) rfl ?_); refine gl_ (some 23) Tryd.func26 #[.int .i64 ((rd_T33 l0 a2).f0)] rfl rfl rfl ?_; (with_reducible refine (spec_ruLevel.calls ((rd_T33 l0 a2).f0) t165 _ A8.out).mono ?_); rintro e w' ⟨rfl, ⟨nd, rfl⟩⟩; refine ⟨_, rfl, ?_⟩) | ((with_reducible refine gate_callee (f := 27) rfl ?_); refine gl_ (some 54) Tryd.func27 #[.int .i64 ((rd_T33 l0 a2).f1)] rfl rfl rfl ?_; (with_reducible refine (spec_l1Num.calls k ((rd_T33 l0 a2).f1) t166 _ A10.out).mono ?_); rintro e w33 ⟨rfl, hb⟩; refine ⟨_, rfl, ?_⟩; replace BK164 := Aside0.mk (blk_below (g := gb164) (o := .cells #[.int .i64 ((rd_T33 l0 a2).f0), .int .i64 ((rd_T33 l0 a2).f1)] 33 (0, 0)) (kpq_ (kputs BK164 [(0, _), (1, _)])) hb); replace HB := hbs_ HB hb; obtain ⟨hcz34_0, hcz34_1, hfz34_0, hfz34_1⟩ := bx2 BK164))
   replace BK164 := Aside0.mk (blk_drew BK164.out)
   replace HB := Aside0.mk (below_drew1 HB.out)
   refine start_ (n := 6) (S := fun w' => w'.cell? ⟨gb164, 0, none⟩ = some (.int .i64 ((rd_T33 l0 a2).f0)) ∧ w'.cell? ⟨gb164, 1, none⟩ = some (.int .i64 ((rd_T33 l0 a2).f1))) (ds := []) (bb 6 0) (by kernel_rfl) rfl rfl ⟨(blk_cell BK164.out 0).trans rfl, (blk_cell BK164.out 1).trans rfl⟩ (fun hHeld => ?_)
   generalize w33.drew = w35 at BK164 HB hHeld ⊢
   refine pure_ (i := 1) (N := some 59) (v := ?_) (a' := ?_) (bb 6 2) rfl rfl (by kernel_rfl) (fun _ _ _ h => h) (Or.inl ⟨by rfl, ?_⟩) ?_ ?_
   rotate_left
   ·intro w'
    go_simp
    with_reducible rfl
   rotate_left
   ·simp only [Act.put, List.setIfInBounds_toArray, List.set_cons_zero, List.set_cons_succ, i64_w, i32_w]
    rfl
   refine take_ (i := 2) (N := some 60) (v := ?_) (a' := ?_) (bb 6 6) rfl rfl (by kernel_rfl) (fun _ _ _ h => h) (Or.inl ⟨by rfl, ?_⟩) hHeld ?_ ?_
   rotate_left
   ·rintro w' ⟨s0, s1⟩
    go_simp
    with_reducible rfl
   rotate_left
   ·simp only [Act.put, List.setIfInBounds_toArray, List.set_cons_zero, List.set_cons_succ, i64_w, i32_w]
    rfl
   refine one_ (i := 0) (N := some 58) (bb 6 7) rfl rfl (by kernel_rfl) (by decide) (fun K hK => ?_)
   refine goes_ Tryd.func28 (by kernel_rfl) rfl #[] (by rfl) rfl rfl (by (try simp only [List.map_toArray, List.map_cons, List.map_nil]); first | done | rfl | (simp only [List.length_drop, List.length_take]; rfl)) ?_
   with_reducible refine (spec_ruFields.calls  t167 _ A12.out).mono ?_
   rintro e w36 ⟨v168, rfl, ho0, hb⟩
   refine ⟨_, rfl, ?_⟩
   have HO169 := Aside0.mk (Kd.R_lower ho0 (below_size (hb_ HB)))
   replace BK164 := Aside0.mk (blk_below (kp_ BK164) hb)
   replace HB := Aside0.mk (below_step (hb_ HB) hb)
   obtain ⟨Ao37, co37, eo37⟩ := Kd.R_slice HO169.out
   (first | subst eo37 | (injection eo37 with f1_ f2_ f3_; have f4_ := f1_.symm; have f5_ := f3_.symm; clear f1_ f2_ f3_; subst f4_; subst f5_))
   have p170 : 0 ≤ (((rd_T33 l0 a2).f1) : Int) := of_decide_eq_true (by first | (with_reducible assumption) | assumption)
   have q170 : ((rd_T33 l0 a2).f1) < (t167.length : Int) := of_decide_eq_true (by first | (with_reducible assumption) | assumption)
   obtain ⟨ad170, e170, hx170_0⟩ := Kd.at_string (Kd.R_reads' HO169.out).2.2 ((rd_T33 l0 a2).f1) p170 q170
   cases e170
   replace p170 := eq_true p170
   replace q170 := eq_true q170
   refine hK.out _ _ ⟨(blk_cell BK164.out 0).trans rfl, (blk_cell BK164.out 1).trans rfl⟩ (fun hHeld => ?_)
   refine addS_ (E := fun w' => w'.cell? (ad170.add (((rd_T33 l0 a2).f1)).toNat) = some (.string (rdOf ByteArray.empty t167 ((rd_T33 l0 a2).f1)))) hHeld hx170_0 ?_
   have hHeld := And.intro hx170_0 hHeld
   clear hK K
   refine nm_ (some 58) (h := ?_)
   refine pure_ (i := 3) (N := some 61) (v := ?_) (a' := ?_) (bb 6 15) rfl rfl (by kernel_rfl) (fun _ _ _ h => h) (Or.inl ⟨by rfl, ?_⟩) ?_ ?_
   rotate_left
   ·intro w'
    go_simp
    with_reducible rfl
   rotate_left
   ·simp only [Act.put, List.setIfInBounds_toArray, List.set_cons_zero, List.set_cons_succ, i64_w, i32_w]
    rfl
   refine take_ (i := 4) (N := some 62) (v := ?_) (a' := ?_) (bb 6 31) rfl rfl (by kernel_rfl) (fun _ _ _ h => h) (Or.inl ⟨by rfl, ?_⟩) hHeld ?_ ?_
   rotate_left
   ·rintro w' ⟨s0, s1, s2⟩
    go_simp
    with_reducible rfl
   rotate_left
   ·simp only [Act.put, List.setIfInBounds_toArray, List.set_cons_zero, List.set_cons_succ, i64_w, i32_w]
    rfl
   refine pure_ (i := 5) (N := some 12) (v := ?_) (a' := ?_) (bb 6 63) rfl rfl (by kernel_rfl) (fun _ _ _ h => h) (Or.inl ⟨by rfl, ?_⟩) ?_ ?_
   rotate_left
   ·intro w'
    go_simp
    with_reducible rfl
   rotate_left
   ·simp only [Act.put, List.setIfInBounds_toArray, List.set_cons_zero, List.set_cons_succ, i64_w, i32_w]
    rfl
   refine done_ (by kernel_rfl) ?_
   try go_wp2
   go_ret
   exact ad_ (hb_ HB)
   )
   exact p2_
  rw [if_neg c11] at H
  have c11b0 : (((rd_T33 l0 a2).f0) == 1) = false := beq_eq_false_iff_ne.mpr c11
  have c11b1 : (((rd_T33 l0 a2).f0) != 1) = true := bne_iff_ne.mpr c11
  by_cases c38 : t165 < a3
  ·rw [if_pos c38] at H
   have c38b0 := decide_eq_true c38
   clear c38
   by_cases c39 : 2 + t166.size ≤ 9223372036854775807
   case neg => rw [if_neg c39] at H; exact absurd H (by simp)
   rw [if_pos c39] at H
   have c39b0 := eq_true c39
   have c39b1 := decide_eq_true c39
   try have c39b2 : (9223372036854775807 < 2 + t166.size) = False := eq_false (Nat.not_lt.2 c39)
   by_cases c40 : ((⟨#[40, 32]⟩ : ByteArray) ++ t166).size + 2 ≤ 9223372036854775807
   case neg => rw [if_neg c40] at H; exact absurd H (by simp)
   refine ?z3_
   let rec p3_ : type_of% ?z3_ := by(
   rw [if_pos c40] at H
   have c40b0 := eq_true c40
   have c40b1 := decide_eq_true c40
   try have c40b2 : (9223372036854775807 < ((⟨#[40, 32]⟩ : ByteArray) ++ t166).size + 2) = False := eq_false (Nat.not_lt.2 c40)
   have c40b3 : (9223372036854775807 < 2 + t166.size + 2) = False := eq_false (Nat.not_lt.2 (by have h_ := c40; simp only [ByteArray.size_append] at h_; exact h_))
   obtain rfl := Option.some.inj H
   go_enter Tryd.func18, Tryd.ntmps18
   try go_wp2
   replace HB := Aside0.mk (below_drew1 HB.out)
   have p162 : 0 ≤ (a2 : Int) := of_decide_eq_true (by first | (with_reducible assumption) | assumption)
   have q162 : a2 < (l0.length : Int) := of_decide_eq_true (by first | (with_reducible assumption) | assumption)
   obtain ⟨ad162, e162, hx162_0, hx162_1⟩ := at_T33 HR0.out a2 p162 q162
   have hw162_1 := hx162_1
   have hw162_0 := hx162_0
   cases e162
   replace hx162_0 := hc_ HB hx162_0
   replace hx162_1 := hc_ HB hx162_1
   replace p162 := eq_true p162
   replace q162 := eq_true q162
   have p163 : 0 ≤ (a2 : Int) := of_decide_eq_true (by first | (with_reducible assumption) | assumption)
   have q163 : a2 < (l1.length : Int) := of_decide_eq_true (by first | (with_reducible assumption) | assumption)
   obtain ⟨ad163, A163_0, c163_0, e163, hx163_0, hl163_0, hi163_0⟩ := at_L3 HR1.out a2 p163 q163
   have hw163_0 := hx163_0
   cases e163
   replace hx163_0 := hc_ HB hx163_0
   have HR163_0 := Aside0.mk hi163_0
   have HC163_0 := Aside0.mk hl163_0
   clear hi163_0 hl163_0
   replace p163 := eq_true p163
   replace q163 := eq_true q163
   refine start_ (n := 11) (S := fun w' => w'.cell? (ad162.add ((a2).toNat * 2)) = some (.int .i64 ((rd_T33 l0 a2).f0)) ∧ w'.cell? ⟨(ad162.add ((a2).toNat * 2)).block, (ad162.add ((a2).toNat * 2)).off + 1, none⟩ = some (.int .i64 ((rd_T33 l0 a2).f1)) ∧ w'.cell? (ad163.add (a2).toNat) = some (.slice A163_0 (rd_L3 l1 a2).length c163_0)) (ds := []) (bb 11 0) (by kernel_rfl) rfl rfl ⟨((HB.out.cell (World.block_lt_of_cell? w _ hw162_0)).trans hw162_0), ((HB.out.cell (World.block_lt_of_cell? w _ hw162_1)).trans hw162_1), ((HB.out.cell (World.block_lt_of_cell? w _ hw163_0)).trans hw163_0)⟩ (fun hHeld => ?_); refine with_tabW spec_ruShow.tab1 spec_ruShow.bits1 (fun HT_ HW_ => ?_)
   generalize w.drew = w41 at HB HR163_0 hx162_0 hx162_1 hx163_0 hHeld ⊢
   refine pl_ HT_ 0 (some 13) (bb 11 1) (h := ?_)
   refine pl_ HT_ 1 (some 14) (bb 11 3) (h := ?_)
   refine pl_ HT_ 2 (some 15) (bb 11 7) (h := ?_)
   refine pl_ HT_ 4 (some 17) (bb 11 23) (h := ?_)
   refine pl_ HT_ 5 (some 18) (bb 11 55) (h := ?_)
   refine pl_ HT_ 6 (some 19) (bb 11 119) (h := ?_)
   refine tk_ HT_ HW_ hHeld 3 (some 16) (bb 11 127) (h := ?_)
   refine tk_ HT_ HW_ hHeld 7 (some 20) (bb 11 255) (h := ?_)
   refine one_ (i := 8) (N := some 9) (bb 11 511) rfl rfl (one_of HT_.out (by kernel_rfl)) (by decide) (fun K hK => ?_)
   refine box_step ?hg (N := 9) ?hd (cs := #[.int .i64 0, .int .i64 0]) (t := 33) ?hr ?_; (case hd => rfl); (case hg => rfl); (case hr => first | (go_simp; done) | (go_simp; rfl))
   intro gb164 hg w42 hbox hb
   have n0_ := Aside0.mk (below_step (hb_ HB) hb)
   have n1_ := Aside0.mk (hbox)
   have n2_ := Aside0.mk ((by rw [hg]; exact (below_size (hb_ HB)) : w.heap.size ≤ gb164))
   have n3_ := Aside0.mk ((by rw [hg]; exact (below_size (hb_ HB)) : w.heap.size ≤ gb164))
   clear HB
   have HB := n0_
   have BK164 := n1_
   have GW164 := n2_
   have GE164 := n3_
   clear n0_ n1_ n2_ n3_
   clear hb hbox hg
   refine hK.out _ _ ⟨((HB.out.cell (World.block_lt_of_cell? w _ hw162_0)).trans hw162_0), ((HB.out.cell (World.block_lt_of_cell? w _ hw162_1)).trans hw162_1), ((HB.out.cell (World.block_lt_of_cell? w _ hw163_0)).trans hw163_0)⟩ (fun hHeld => ?_)
   clear hK K
   refine nm_ (some 9) (h := ?_)
   refine one_ (i := 9) (N := none) (bb 11 1023) rfl rfl (one_of HT_.out (by kernel_rfl)) (by decide) (fun K hK => ?_)
   have hs43 : w42.cell? ⟨gb164, 0, none⟩ = some (.int .i64 0) := (blk_cell BK164.out 0).trans rfl
   have hfs43 := blk_frozen BK164.out 0
   have hs44 : w42.cell? ⟨gb164, 1, none⟩ = some (.int .i64 0) := (blk_cell BK164.out 1).trans rfl
   have hfs44 := blk_frozen BK164.out 1
   refine skip_ (w1 := ?_) (by rfl) rfl ?_ ?_
   rotate_left
   ·go_simp
    rfl
   refine hK.out _ _ ⟨((cell_far (p := ⟨gb164, _, none⟩) (by first | exact Nat.ne_of_lt (Nat.lt_of_lt_of_le (by have := World.block_lt_of_cell? _ _ hw162_0; first | rwa [add_block] at this | exact this) GW164.out) | (rw [add_block]; exact Nat.ne_of_lt (Nat.lt_of_lt_of_le (by have := World.block_lt_of_cell? _ _ hw162_0; first | rwa [add_block] at this | exact this) GW164.out)) | (show (Addr.add _ _).block ≠ _; rw [add_block]; exact Nat.ne_of_lt (Nat.lt_of_lt_of_le (by have := World.block_lt_of_cell? _ _ hw162_0; first | rwa [add_block] at this | exact this) GW164.out)) | (dsimp only; exact Nat.ne_of_lt (Nat.lt_of_lt_of_le (by have := World.block_lt_of_cell? _ _ hw162_0; first | rwa [add_block] at this | exact this) GW164.out))) _).trans (((cell_far (p := ⟨gb164, _, none⟩) (by first | exact Nat.ne_of_lt (Nat.lt_of_lt_of_le (by have := World.block_lt_of_cell? _ _ hw162_0; first | rwa [add_block] at this | exact this) GW164.out) | (rw [add_block]; exact Nat.ne_of_lt (Nat.lt_of_lt_of_le (by have := World.block_lt_of_cell? _ _ hw162_0; first | rwa [add_block] at this | exact this) GW164.out)) | (show (Addr.add _ _).block ≠ _; rw [add_block]; exact Nat.ne_of_lt (Nat.lt_of_lt_of_le (by have := World.block_lt_of_cell? _ _ hw162_0; first | rwa [add_block] at this | exact this) GW164.out)) | (dsimp only; exact Nat.ne_of_lt (Nat.lt_of_lt_of_le (by have := World.block_lt_of_cell? _ _ hw162_0; first | rwa [add_block] at this | exact this) GW164.out))) _).trans (hHeld.1)))), ((cell_far (p := ⟨gb164, _, none⟩) (by first | exact Nat.ne_of_lt (Nat.lt_of_lt_of_le (by have := World.block_lt_of_cell? _ _ hw162_1; first | rwa [add_block] at this | exact this) GW164.out) | (rw [add_block]; exact Nat.ne_of_lt (Nat.lt_of_lt_of_le (by have := World.block_lt_of_cell? _ _ hw162_1; first | rwa [add_block] at this | exact this) GW164.out)) | (show (Addr.add _ _).block ≠ _; rw [add_block]; exact Nat.ne_of_lt (Nat.lt_of_lt_of_le (by have := World.block_lt_of_cell? _ _ hw162_1; first | rwa [add_block] at this | exact this) GW164.out)) | (dsimp only; exact Nat.ne_of_lt (Nat.lt_of_lt_of_le (by have := World.block_lt_of_cell? _ _ hw162_1; first | rwa [add_block] at this | exact this) GW164.out))) _).trans (((cell_far (p := ⟨gb164, _, none⟩) (by first | exact Nat.ne_of_lt (Nat.lt_of_lt_of_le (by have := World.block_lt_of_cell? _ _ hw162_1; first | rwa [add_block] at this | exact this) GW164.out) | (rw [add_block]; exact Nat.ne_of_lt (Nat.lt_of_lt_of_le (by have := World.block_lt_of_cell? _ _ hw162_1; first | rwa [add_block] at this | exact this) GW164.out)) | (show (Addr.add _ _).block ≠ _; rw [add_block]; exact Nat.ne_of_lt (Nat.lt_of_lt_of_le (by have := World.block_lt_of_cell? _ _ hw162_1; first | rwa [add_block] at this | exact this) GW164.out)) | (dsimp only; exact Nat.ne_of_lt (Nat.lt_of_lt_of_le (by have := World.block_lt_of_cell? _ _ hw162_1; first | rwa [add_block] at this | exact this) GW164.out))) _).trans (hHeld.2.1)))), ((cell_far (p := ⟨gb164, _, none⟩) (by first | exact Nat.ne_of_lt (Nat.lt_of_lt_of_le (by have := World.block_lt_of_cell? _ _ hw163_0; first | rwa [add_block] at this | exact this) GW164.out) | (rw [add_block]; exact Nat.ne_of_lt (Nat.lt_of_lt_of_le (by have := World.block_lt_of_cell? _ _ hw163_0; first | rwa [add_block] at this | exact this) GW164.out)) | (show (Addr.add _ _).block ≠ _; rw [add_block]; exact Nat.ne_of_lt (Nat.lt_of_lt_of_le (by have := World.block_lt_of_cell? _ _ hw163_0; first | rwa [add_block] at this | exact this) GW164.out)) | (dsimp only; exact Nat.ne_of_lt (Nat.lt_of_lt_of_le (by have := World.block_lt_of_cell? _ _ hw163_0; first | rwa [add_block] at this | exact this) GW164.out))) _).trans (((cell_far (p := ⟨gb164, _, none⟩) (by first | exact Nat.ne_of_lt (Nat.lt_of_lt_of_le (by have := World.block_lt_of_cell? _ _ hw163_0; first | rwa [add_block] at this | exact this) GW164.out) | (rw [add_block]; exact Nat.ne_of_lt (Nat.lt_of_lt_of_le (by have := World.block_lt_of_cell? _ _ hw163_0; first | rwa [add_block] at this | exact this) GW164.out)) | (show (Addr.add _ _).block ≠ _; rw [add_block]; exact Nat.ne_of_lt (Nat.lt_of_lt_of_le (by have := World.block_lt_of_cell? _ _ hw163_0; first | rwa [add_block] at this | exact this) GW164.out)) | (dsimp only; exact Nat.ne_of_lt (Nat.lt_of_lt_of_le (by have := World.block_lt_of_cell? _ _ hw163_0; first | rwa [add_block] at this | exact this) GW164.out))) _).trans (hHeld.2.2))))⟩ (fun hHeld => ?_)
   clear hK K
   refine pl_ HT_ 10 (some 10) (bb 11 2047) (h := ?_)
   refine done_ (done_of HT_.out (by kernel_rfl)) ?_
   obtain ⟨hcz45_0, hcz45_1, hfz45_0, hfz45_1⟩ := bx2 BK164
   try go_wp2_with (first | ((with_reducible refine gate_callee (f := 26) rfl ?_); refine gl_ (some 23) Tryd.func26 #[.int .i64 ((rd_T33 l0 a2).f0)] rfl rfl rfl ?_; (with_reducible refine (spec_ruLevel.calls ((rd_T33 l0 a2).f0) t165 _ A8.out).mono ?_); rintro e w' ⟨rfl, ⟨nd, rfl⟩⟩; refine ⟨_, rfl, ?_⟩) | ((with_reducible refine gate_callee (f := 27) rfl ?_); refine gl_ (some 54) Tryd.func27 #[.int .i64 ((rd_T33 l0 a2).f1)] rfl rfl rfl ?_; (with_reducible refine (spec_l1Num.calls k ((rd_T33 l0 a2).f1) t166 _ A10.out).mono ?_); rintro e w46 ⟨rfl, hb⟩; refine ⟨_, rfl, ?_⟩; replace BK164 := Aside0.mk (blk_below (g := gb164) (o := .cells #[.int .i64 ((rd_T33 l0 a2).f0), .int .i64 ((rd_T33 l0 a2).f1)] 33 (0, 0)) (kpq_ (kputs BK164 [(0, _), (1, _)])) hb); replace HB := hbs_ HB hb; obtain ⟨hcz47_0, hcz47_1, hfz47_0, hfz47_1⟩ := bx2 BK164))
   go_ret
   exact ad_ (hb_ HB)
   )
   exact p3_
  refine ?z4_
  let rec p4_ : type_of% ?z4_ := by(
  rw [if_neg c38] at H
  have c38b0 := decide_eq_false c38
  clear c38
  obtain rfl := Option.some.inj H
  go_enter Tryd.func18, Tryd.ntmps18
  try go_wp2
  replace HB := Aside0.mk (below_drew1 HB.out)
  have p162 : 0 ≤ (a2 : Int) := of_decide_eq_true (by first | (with_reducible assumption) | assumption)
  have q162 : a2 < (l0.length : Int) := of_decide_eq_true (by first | (with_reducible assumption) | assumption)
  obtain ⟨ad162, e162, hx162_0, hx162_1⟩ := at_T33 HR0.out a2 p162 q162
  have hw162_1 := hx162_1
  have hw162_0 := hx162_0
  cases e162
  replace hx162_0 := hc_ HB hx162_0
  replace hx162_1 := hc_ HB hx162_1
  replace p162 := eq_true p162
  replace q162 := eq_true q162
  have p163 : 0 ≤ (a2 : Int) := of_decide_eq_true (by first | (with_reducible assumption) | assumption)
  have q163 : a2 < (l1.length : Int) := of_decide_eq_true (by first | (with_reducible assumption) | assumption)
  obtain ⟨ad163, A163_0, c163_0, e163, hx163_0, hl163_0, hi163_0⟩ := at_L3 HR1.out a2 p163 q163
  have hw163_0 := hx163_0
  cases e163
  replace hx163_0 := hc_ HB hx163_0
  have HR163_0 := Aside0.mk hi163_0
  have HC163_0 := Aside0.mk hl163_0
  clear hi163_0 hl163_0
  replace p163 := eq_true p163
  replace q163 := eq_true q163
  refine start_ (n := 11) (S := fun w' => w'.cell? (ad162.add ((a2).toNat * 2)) = some (.int .i64 ((rd_T33 l0 a2).f0)) ∧ w'.cell? ⟨(ad162.add ((a2).toNat * 2)).block, (ad162.add ((a2).toNat * 2)).off + 1, none⟩ = some (.int .i64 ((rd_T33 l0 a2).f1)) ∧ w'.cell? (ad163.add (a2).toNat) = some (.slice A163_0 (rd_L3 l1 a2).length c163_0)) (ds := []) (bb 11 0) (by kernel_rfl) rfl rfl ⟨((HB.out.cell (World.block_lt_of_cell? w _ hw162_0)).trans hw162_0), ((HB.out.cell (World.block_lt_of_cell? w _ hw162_1)).trans hw162_1), ((HB.out.cell (World.block_lt_of_cell? w _ hw163_0)).trans hw163_0)⟩ (fun hHeld => ?_); refine with_tabW spec_ruShow.tab1 spec_ruShow.bits1 (fun HT_ HW_ => ?_)
  generalize w.drew = w48 at HB HR163_0 hx162_0 hx162_1 hx163_0 hHeld ⊢
  refine pl_ HT_ 0 (some 13) (bb 11 1) (h := ?_)
  refine pl_ HT_ 1 (some 14) (bb 11 3) (h := ?_)
  refine pl_ HT_ 2 (some 15) (bb 11 7) (h := ?_)
  refine pl_ HT_ 4 (some 17) (bb 11 23) (h := ?_)
  refine pl_ HT_ 5 (some 18) (bb 11 55) (h := ?_)
  refine pl_ HT_ 6 (some 19) (bb 11 119) (h := ?_)
  refine tk_ HT_ HW_ hHeld 3 (some 16) (bb 11 127) (h := ?_)
  refine tk_ HT_ HW_ hHeld 7 (some 20) (bb 11 255) (h := ?_)
  refine one_ (i := 8) (N := some 9) (bb 11 511) rfl rfl (one_of HT_.out (by kernel_rfl)) (by decide) (fun K hK => ?_)
  refine box_step ?hg (N := 9) ?hd (cs := #[.int .i64 0, .int .i64 0]) (t := 33) ?hr ?_; (case hd => rfl); (case hg => rfl); (case hr => first | (go_simp; done) | (go_simp; rfl))
  intro gb164 hg w49 hbox hb
  have n0_ := Aside0.mk (below_step (hb_ HB) hb)
  have n1_ := Aside0.mk (hbox)
  have n2_ := Aside0.mk ((by rw [hg]; exact (below_size (hb_ HB)) : w.heap.size ≤ gb164))
  have n3_ := Aside0.mk ((by rw [hg]; exact (below_size (hb_ HB)) : w.heap.size ≤ gb164))
  clear HB
  have HB := n0_
  have BK164 := n1_
  have GW164 := n2_
  have GE164 := n3_
  clear n0_ n1_ n2_ n3_
  clear hb hbox hg
  refine hK.out _ _ ⟨((HB.out.cell (World.block_lt_of_cell? w _ hw162_0)).trans hw162_0), ((HB.out.cell (World.block_lt_of_cell? w _ hw162_1)).trans hw162_1), ((HB.out.cell (World.block_lt_of_cell? w _ hw163_0)).trans hw163_0)⟩ (fun hHeld => ?_)
  clear hK K
  refine nm_ (some 9) (h := ?_)
  refine one_ (i := 9) (N := none) (bb 11 1023) rfl rfl (one_of HT_.out (by kernel_rfl)) (by decide) (fun K hK => ?_)
  have hs50 : w49.cell? ⟨gb164, 0, none⟩ = some (.int .i64 0) := (blk_cell BK164.out 0).trans rfl
  have hfs50 := blk_frozen BK164.out 0
  have hs51 : w49.cell? ⟨gb164, 1, none⟩ = some (.int .i64 0) := (blk_cell BK164.out 1).trans rfl
  have hfs51 := blk_frozen BK164.out 1
  refine skip_ (w1 := ?_) (by rfl) rfl ?_ ?_
  rotate_left
  ·go_simp
   rfl
  refine hK.out _ _ ⟨((cell_far (p := ⟨gb164, _, none⟩) (by first | exact Nat.ne_of_lt (Nat.lt_of_lt_of_le (by have := World.block_lt_of_cell? _ _ hw162_0; first | rwa [add_block] at this | exact this) GW164.out) | (rw [add_block]; exact Nat.ne_of_lt (Nat.lt_of_lt_of_le (by have := World.block_lt_of_cell? _ _ hw162_0; first | rwa [add_block] at this | exact this) GW164.out)) | (show (Addr.add _ _).block ≠ _; rw [add_block]; exact Nat.ne_of_lt (Nat.lt_of_lt_of_le (by have := World.block_lt_of_cell? _ _ hw162_0; first | rwa [add_block] at this | exact this) GW164.out)) | (dsimp only; exact Nat.ne_of_lt (Nat.lt_of_lt_of_le (by have := World.block_lt_of_cell? _ _ hw162_0; first | rwa [add_block] at this | exact this) GW164.out))) _).trans (((cell_far (p := ⟨gb164, _, none⟩) (by first | exact Nat.ne_of_lt (Nat.lt_of_lt_of_le (by have := World.block_lt_of_cell? _ _ hw162_0; first | rwa [add_block] at this | exact this) GW164.out) | (rw [add_block]; exact Nat.ne_of_lt (Nat.lt_of_lt_of_le (by have := World.block_lt_of_cell? _ _ hw162_0; first | rwa [add_block] at this | exact this) GW164.out)) | (show (Addr.add _ _).block ≠ _; rw [add_block]; exact Nat.ne_of_lt (Nat.lt_of_lt_of_le (by have := World.block_lt_of_cell? _ _ hw162_0; first | rwa [add_block] at this | exact this) GW164.out)) | (dsimp only; exact Nat.ne_of_lt (Nat.lt_of_lt_of_le (by have := World.block_lt_of_cell? _ _ hw162_0; first | rwa [add_block] at this | exact this) GW164.out))) _).trans (hHeld.1)))), ((cell_far (p := ⟨gb164, _, none⟩) (by first | exact Nat.ne_of_lt (Nat.lt_of_lt_of_le (by have := World.block_lt_of_cell? _ _ hw162_1; first | rwa [add_block] at this | exact this) GW164.out) | (rw [add_block]; exact Nat.ne_of_lt (Nat.lt_of_lt_of_le (by have := World.block_lt_of_cell? _ _ hw162_1; first | rwa [add_block] at this | exact this) GW164.out)) | (show (Addr.add _ _).block ≠ _; rw [add_block]; exact Nat.ne_of_lt (Nat.lt_of_lt_of_le (by have := World.block_lt_of_cell? _ _ hw162_1; first | rwa [add_block] at this | exact this) GW164.out)) | (dsimp only; exact Nat.ne_of_lt (Nat.lt_of_lt_of_le (by have := World.block_lt_of_cell? _ _ hw162_1; first | rwa [add_block] at this | exact this) GW164.out))) _).trans (((cell_far (p := ⟨gb164, _, none⟩) (by first | exact Nat.ne_of_lt (Nat.lt_of_lt_of_le (by have := World.block_lt_of_cell? _ _ hw162_1; first | rwa [add_block] at this | exact this) GW164.out) | (rw [add_block]; exact Nat.ne_of_lt (Nat.lt_of_lt_of_le (by have := World.block_lt_of_cell? _ _ hw162_1; first | rwa [add_block] at this | exact this) GW164.out)) | (show (Addr.add _ _).block ≠ _; rw [add_block]; exact Nat.ne_of_lt (Nat.lt_of_lt_of_le (by have := World.block_lt_of_cell? _ _ hw162_1; first | rwa [add_block] at this | exact this) GW164.out)) | (dsimp only; exact Nat.ne_of_lt (Nat.lt_of_lt_of_le (by have := World.block_lt_of_cell? _ _ hw162_1; first | rwa [add_block] at this | exact this) GW164.out))) _).trans (hHeld.2.1)))), ((cell_far (p := ⟨gb164, _, none⟩) (by first | exact Nat.ne_of_lt (Nat.lt_of_lt_of_le (by have := World.block_lt_of_cell? _ _ hw163_0; first | rwa [add_block] at this | exact this) GW164.out) | (rw [add_block]; exact Nat.ne_of_lt (Nat.lt_of_lt_of_le (by have := World.block_lt_of_cell? _ _ hw163_0; first | rwa [add_block] at this | exact this) GW164.out)) | (show (Addr.add _ _).block ≠ _; rw [add_block]; exact Nat.ne_of_lt (Nat.lt_of_lt_of_le (by have := World.block_lt_of_cell? _ _ hw163_0; first | rwa [add_block] at this | exact this) GW164.out)) | (dsimp only; exact Nat.ne_of_lt (Nat.lt_of_lt_of_le (by have := World.block_lt_of_cell? _ _ hw163_0; first | rwa [add_block] at this | exact this) GW164.out))) _).trans (((cell_far (p := ⟨gb164, _, none⟩) (by first | exact Nat.ne_of_lt (Nat.lt_of_lt_of_le (by have := World.block_lt_of_cell? _ _ hw163_0; first | rwa [add_block] at this | exact this) GW164.out) | (rw [add_block]; exact Nat.ne_of_lt (Nat.lt_of_lt_of_le (by have := World.block_lt_of_cell? _ _ hw163_0; first | rwa [add_block] at this | exact this) GW164.out)) | (show (Addr.add _ _).block ≠ _; rw [add_block]; exact Nat.ne_of_lt (Nat.lt_of_lt_of_le (by have := World.block_lt_of_cell? _ _ hw163_0; first | rwa [add_block] at this | exact this) GW164.out)) | (dsimp only; exact Nat.ne_of_lt (Nat.lt_of_lt_of_le (by have := World.block_lt_of_cell? _ _ hw163_0; first | rwa [add_block] at this | exact this) GW164.out))) _).trans (hHeld.2.2))))⟩ (fun hHeld => ?_)
  clear hK K
  refine pl_ HT_ 10 (some 10) (bb 11 2047) (h := ?_)
  refine done_ (done_of HT_.out (by kernel_rfl)) ?_
  obtain ⟨hcz52_0, hcz52_1, hfz52_0, hfz52_1⟩ := bx2 BK164
  try go_wp2_with (first | ((with_reducible refine gate_callee (f := 26) rfl ?_); refine gl_ (some 23) Tryd.func26 #[.int .i64 ((rd_T33 l0 a2).f0)] rfl rfl rfl ?_; (with_reducible refine (spec_ruLevel.calls ((rd_T33 l0 a2).f0) t165 _ A8.out).mono ?_); rintro e w' ⟨rfl, ⟨nd, rfl⟩⟩; refine ⟨_, rfl, ?_⟩) | ((with_reducible refine gate_callee (f := 27) rfl ?_); refine gl_ (some 54) Tryd.func27 #[.int .i64 ((rd_T33 l0 a2).f1)] rfl rfl rfl ?_; (with_reducible refine (spec_l1Num.calls k ((rd_T33 l0 a2).f1) t166 _ A10.out).mono ?_); rintro e w53 ⟨rfl, hb⟩; refine ⟨_, rfl, ?_⟩; replace BK164 := Aside0.mk (blk_below (g := gb164) (o := .cells #[.int .i64 ((rd_T33 l0 a2).f0), .int .i64 ((rd_T33 l0 a2).f1)] 33 (0, 0)) (kpq_ (kputs BK164 [(0, _), (1, _)])) hb); replace HB := hbs_ HB hb; obtain ⟨hcz54_0, hcz54_1, hfz54_0, hfz54_1⟩ := bx2 BK164))
  go_ret
  exact ad_ (hb_ HB)
  )
  exact p4_
 rw [if_neg c9] at H
 have c9b0 : (t165 == 3) = false := beq_eq_false_iff_ne.mpr c9
 have c9b1 : (t165 != 3) = true := bne_iff_ne.mpr c9
 by_cases c55 : t165 = 0
 ·rw [if_pos c55] at H
  have c55b0 : (t165 == 0) = true := beq_iff_eq.mpr c55
  have c55b1 : (t165 != 0) = false := bne_eq_false_iff_eq.mpr c55
  clear c55
  by_cases c56 : 0 < ((rd_L3 l1 a2).length : Int)
  case neg => rw [if_neg c56] at H; exact absurd H (by simp)
  rw [if_pos c56] at H
  have c56b0 := decide_eq_true c56
  have c56b1 : decide (0 < (rd_L3 l1 a2).length) = true := decide_eq_true (by omega)
  clear c56
  replace H := Option.bind_eq_some_iff.mp H
  obtain ⟨t172, A570, H⟩ := H
  try dsimp only at H
  have A57 := Aside0.mk A570
  clear A570
  by_cases c58 : 3 + t172.size ≤ 9223372036854775807
  case neg => rw [if_neg c58] at H; exact absurd H (by simp)
  rw [if_pos c58] at H
  have c58b0 := eq_true c58
  have c58b1 := decide_eq_true c58
  try have c58b2 : (9223372036854775807 < 3 + t172.size) = False := eq_false (Nat.not_lt.2 c58)
  by_cases c59 : ((⟨#[105, 102, 32]⟩ : ByteArray) ++ t172).size + 1 ≤ 9223372036854775807
  case neg => rw [if_neg c59] at H; exact absurd H (by simp)
  refine ?z5_
  let rec p5_ : type_of% ?z5_ := by(
  rw [if_pos c59] at H
  have c59b0 := eq_true c59
  have c59b1 := decide_eq_true c59
  try have c59b2 : (9223372036854775807 < ((⟨#[105, 102, 32]⟩ : ByteArray) ++ t172).size + 1) = False := eq_false (Nat.not_lt.2 c59)
  have c59b3 : (9223372036854775807 < 3 + t172.size + 1) = False := eq_false (Nat.not_lt.2 (by have h_ := c59; simp only [ByteArray.size_append] at h_; exact h_))
  obtain ⟨y173, hy173⟩ : ∃ y_ : List ByteArray, y_ = (([(⟨#[60]⟩ : ByteArray), (⟨#[61]⟩ : ByteArray), (⟨#[62]⟩ : ByteArray)] : List ByteArray)) := ⟨_, rfl⟩
  (try with_reducible replace H := (Option.bind_some _ _).symm.trans H); (try dsimp only at H); (try rw [← hy173] at H)
  have Ny173 := Aside0.mk hy173
  clear hy173
  obtain ⟨ji60, hji60⟩ : ∃ j_ : Int, (wrap64 (((rd_T33 l0 a2).f0) - 6)) = j_ := ⟨_, rfl⟩
  replace H : (if 0 ≤ (ji60) then (if (ji60) < (y173.length : Int) then (if (((⟨#[105, 102, 32]⟩ : ByteArray) ++ t172) ++ (⟨#[32]⟩ : ByteArray)).size + (rdOf ByteArray.empty y173 (ji60)).size ≤ 9223372036854775807 then (if ((((⟨#[105, 102, 32]⟩ : ByteArray) ++ t172) ++ (⟨#[32]⟩ : ByteArray)) ++ (rdOf ByteArray.empty y173 (ji60))).size + 1 ≤ 9223372036854775807 then (if 1 < ((rd_L3 l1 a2).length : Int) then ((spec_ruShow.f k l0 l1 (rd (rd_L3 l1 a2) 1) 1).bind fun t178 => (if (((((⟨#[105, 102, 32]⟩ : ByteArray) ++ t172) ++ (⟨#[32]⟩ : ByteArray)) ++ (rdOf ByteArray.empty y173 (ji60))) ++ (⟨#[32]⟩ : ByteArray)).size + t178.size ≤ 9223372036854775807 then (if ((((((⟨#[105, 102, 32]⟩ : ByteArray) ++ t172) ++ (⟨#[32]⟩ : ByteArray)) ++ (rdOf ByteArray.empty y173 (ji60))) ++ (⟨#[32]⟩ : ByteArray)) ++ t178).size + 6 ≤ 9223372036854775807 then (if 2 < ((rd_L3 l1 a2).length : Int) then ((spec_ruShow.f k l0 l1 (rd (rd_L3 l1 a2) 2) 0).bind fun t180 => (if (((((((⟨#[105, 102, 32]⟩ : ByteArray) ++ t172) ++ (⟨#[32]⟩ : ByteArray)) ++ (rdOf ByteArray.empty y173 (ji60))) ++ (⟨#[32]⟩ : ByteArray)) ++ t178) ++ (⟨#[32, 116, 104, 101, 110, 32]⟩ : ByteArray)).size + t180.size ≤ 9223372036854775807 then (if ((((((((⟨#[105, 102, 32]⟩ : ByteArray) ++ t172) ++ (⟨#[32]⟩ : ByteArray)) ++ (rdOf ByteArray.empty y173 (ji60))) ++ (⟨#[32]⟩ : ByteArray)) ++ t178) ++ (⟨#[32, 116, 104, 101, 110, 32]⟩ : ByteArray)) ++ t180).size + 6 ≤ 9223372036854775807 then (if 3 < ((rd_L3 l1 a2).length : Int) then ((spec_ruShow.f k l0 l1 (rd (rd_L3 l1 a2) 3) 0).bind fun t182 => (if (((((((((⟨#[105, 102, 32]⟩ : ByteArray) ++ t172) ++ (⟨#[32]⟩ : ByteArray)) ++ (rdOf ByteArray.empty y173 (ji60))) ++ (⟨#[32]⟩ : ByteArray)) ++ t178) ++ (⟨#[32, 116, 104, 101, 110, 32]⟩ : ByteArray)) ++ t180) ++ (⟨#[32, 101, 108, 115, 101, 32]⟩ : ByteArray)).size + t182.size ≤ 9223372036854775807 then (if t165 < a3 then (if 2 + ((((((((((⟨#[105, 102, 32]⟩ : ByteArray) ++ t172) ++ (⟨#[32]⟩ : ByteArray)) ++ (rdOf ByteArray.empty y173 (ji60))) ++ (⟨#[32]⟩ : ByteArray)) ++ t178) ++ (⟨#[32, 116, 104, 101, 110, 32]⟩ : ByteArray)) ++ t180) ++ (⟨#[32, 101, 108, 115, 101, 32]⟩ : ByteArray)) ++ t182).size ≤ 9223372036854775807 then (if ((⟨#[40, 32]⟩ : ByteArray) ++ ((((((((((⟨#[105, 102, 32]⟩ : ByteArray) ++ t172) ++ (⟨#[32]⟩ : ByteArray)) ++ (rdOf ByteArray.empty y173 (ji60))) ++ (⟨#[32]⟩ : ByteArray)) ++ t178) ++ (⟨#[32, 116, 104, 101, 110, 32]⟩ : ByteArray)) ++ t180) ++ (⟨#[32, 101, 108, 115, 101, 32]⟩ : ByteArray)) ++ t182)).size + 2 ≤ 9223372036854775807 then (some (((⟨#[40, 32]⟩ : ByteArray) ++ ((((((((((⟨#[105, 102, 32]⟩ : ByteArray) ++ t172) ++ (⟨#[32]⟩ : ByteArray)) ++ (rdOf ByteArray.empty y173 (ji60))) ++ (⟨#[32]⟩ : ByteArray)) ++ t178) ++ (⟨#[32, 116, 104, 101, 110, 32]⟩ : ByteArray)) ++ t180) ++ (⟨#[32, 101, 108, 115, 101, 32]⟩ : ByteArray)) ++ t182)) ++ (⟨#[32, 41]⟩ : ByteArray))) else (none)) else (none)) else (some ((((((((((⟨#[105, 102, 32]⟩ : ByteArray) ++ t172) ++ (⟨#[32]⟩ : ByteArray)) ++ (rdOf ByteArray.empty y173 (ji60))) ++ (⟨#[32]⟩ : ByteArray)) ++ t178) ++ (⟨#[32, 116, 104, 101, 110, 32]⟩ : ByteArray)) ++ t180) ++ (⟨#[32, 101, 108, 115, 101, 32]⟩ : ByteArray)) ++ t182))) else (none))) else (none)) else (none)) else (none))) else (none)) else (none)) else (none))) else (none)) else (none)) else (none)) else (none)) else (none)) = some r := by first | (rw [hji60] at H; exact H) | (simp only [hji60] at H ⊢; exact H)
  (try rw [hji60] at A8)
  (try rw [hji60] at A57)
  have hji60w : (IntKind.i64.wrap (((rd_T33 l0 a2).f0) - 6)) = ji60 := (i64_w _).trans hji60
  by_cases c61 : 0 ≤ (ji60)
  ·rw [if_pos c61] at H
   have c61b0 := decide_eq_true c61
   clear c61
   by_cases c62 : (ji60) < (y173.length : Int)
   case neg => rw [if_neg c62] at H; exact absurd H (by simp)
   rw [if_pos c62] at H
   have c62b0 := decide_eq_true c62
   clear c62
   by_cases c63 : (((⟨#[105, 102, 32]⟩ : ByteArray) ++ t172) ++ (⟨#[32]⟩ : ByteArray)).size + (rdOf ByteArray.empty y173 (ji60)).size ≤ 9223372036854775807
   case neg => rw [if_neg c63] at H; exact absurd H (by simp)
   rw [if_pos c63] at H
   have c63b0 := eq_true c63
   have c63b1 := decide_eq_true c63
   try have c63b2 : (9223372036854775807 < (((⟨#[105, 102, 32]⟩ : ByteArray) ++ t172) ++ (⟨#[32]⟩ : ByteArray)).size + (rdOf ByteArray.empty y173 (ji60)).size) = False := eq_false (Nat.not_lt.2 c63)
   have c63b3 : (9223372036854775807 < 3 + t172.size + 1 + (rdOf ByteArray.empty y173 (ji60)).size) = False := eq_false (Nat.not_lt.2 (by have h_ := c63; simp only [ByteArray.size_append] at h_; exact h_))
   by_cases c64 : ((((⟨#[105, 102, 32]⟩ : ByteArray) ++ t172) ++ (⟨#[32]⟩ : ByteArray)) ++ (rdOf ByteArray.empty y173 (ji60))).size + 1 ≤ 9223372036854775807
   case neg => rw [if_neg c64] at H; exact absurd H (by simp)
   rw [if_pos c64] at H
   have c64b0 := eq_true c64
   have c64b1 := decide_eq_true c64
   try have c64b2 : (9223372036854775807 < ((((⟨#[105, 102, 32]⟩ : ByteArray) ++ t172) ++ (⟨#[32]⟩ : ByteArray)) ++ (rdOf ByteArray.empty y173 (ji60))).size + 1) = False := eq_false (Nat.not_lt.2 c64)
   have c64b3 : (9223372036854775807 < 3 + t172.size + 1 + (rdOf ByteArray.empty y173 (ji60)).size + 1) = False := eq_false (Nat.not_lt.2 (by have h_ := c64; simp only [ByteArray.size_append] at h_; exact h_))
   by_cases c65 : 1 < ((rd_L3 l1 a2).length : Int)
   case neg => rw [if_neg c65] at H; exact absurd H (by simp)
   rw [if_pos c65] at H
   have c65b0 := decide_eq_true c65
   have c65b1 : decide (1 < (rd_L3 l1 a2).length) = true := decide_eq_true (by omega)
   clear c65
   replace H := Option.bind_eq_some_iff.mp H
   obtain ⟨t178, A660, H⟩ := H
   try dsimp only at H
   have A66 := Aside0.mk A660
   clear A660
   by_cases c67 : (((((⟨#[105, 102, 32]⟩ : ByteArray) ++ t172) ++ (⟨#[32]⟩ : ByteArray)) ++ (rdOf ByteArray.empty y173 (ji60))) ++ (⟨#[32]⟩ : ByteArray)).size + t178.size ≤ 9223372036854775807
   case neg => rw [if_neg c67] at H; exact absurd H (by simp)
   rw [if_pos c67] at H
   have c67b0 := eq_true c67
   have c67b1 := decide_eq_true c67
   try have c67b2 : (9223372036854775807 < (((((⟨#[105, 102, 32]⟩ : ByteArray) ++ t172) ++ (⟨#[32]⟩ : ByteArray)) ++ (rdOf ByteArray.empty y173 (ji60))) ++ (⟨#[32]⟩ : ByteArray)).size + t178.size) = False := eq_false (Nat.not_lt.2 c67)
   have c67b3 : (9223372036854775807 < 3 + t172.size + 1 + (rdOf ByteArray.empty y173 (ji60)).size + 1 + t178.size) = False := eq_false (Nat.not_lt.2 (by have h_ := c67; simp only [ByteArray.size_append] at h_; exact h_))
   by_cases c68 : ((((((⟨#[105, 102, 32]⟩ : ByteArray) ++ t172) ++ (⟨#[32]⟩ : ByteArray)) ++ (rdOf ByteArray.empty y173 (ji60))) ++ (⟨#[32]⟩ : ByteArray)) ++ t178).size + 6 ≤ 9223372036854775807
   case neg => rw [if_neg c68] at H; exact absurd H (by simp)
   rw [if_pos c68] at H
   have c68b0 := eq_true c68
   have c68b1 := decide_eq_true c68
   try have c68b2 : (9223372036854775807 < ((((((⟨#[105, 102, 32]⟩ : ByteArray) ++ t172) ++ (⟨#[32]⟩ : ByteArray)) ++ (rdOf ByteArray.empty y173 (ji60))) ++ (⟨#[32]⟩ : ByteArray)) ++ t178).size + 6) = False := eq_false (Nat.not_lt.2 c68)
   have c68b3 : (9223372036854775807 < 3 + t172.size + 1 + (rdOf ByteArray.empty y173 (ji60)).size + 1 + t178.size + 6) = False := eq_false (Nat.not_lt.2 (by have h_ := c68; simp only [ByteArray.size_append] at h_; exact h_))
   by_cases c69 : 2 < ((rd_L3 l1 a2).length : Int)
   case neg => rw [if_neg c69] at H; exact absurd H (by simp)
   refine ?z6_
   let rec p6_ : type_of% ?z6_ := by(
   rw [if_pos c69] at H
   have c69b0 := decide_eq_true c69
   have c69b1 : decide (2 < (rd_L3 l1 a2).length) = true := decide_eq_true (by omega)
   clear c69
   replace H := Option.bind_eq_some_iff.mp H
   obtain ⟨t180, A700, H⟩ := H
   try dsimp only at H
   have A70 := Aside0.mk A700
   clear A700
   by_cases c71 : (((((((⟨#[105, 102, 32]⟩ : ByteArray) ++ t172) ++ (⟨#[32]⟩ : ByteArray)) ++ (rdOf ByteArray.empty y173 (ji60))) ++ (⟨#[32]⟩ : ByteArray)) ++ t178) ++ (⟨#[32, 116, 104, 101, 110, 32]⟩ : ByteArray)).size + t180.size ≤ 9223372036854775807
   ·rw [if_pos c71] at H
    have c71b0 := eq_true c71
    have c71b1 := decide_eq_true c71
    try have c71b2 : (9223372036854775807 < (((((((⟨#[105, 102, 32]⟩ : ByteArray) ++ t172) ++ (⟨#[32]⟩ : ByteArray)) ++ (rdOf ByteArray.empty y173 (ji60))) ++ (⟨#[32]⟩ : ByteArray)) ++ t178) ++ (⟨#[32, 116, 104, 101, 110, 32]⟩ : ByteArray)).size + t180.size) = False := eq_false (Nat.not_lt.2 c71)
    have c71b3 : (9223372036854775807 < 3 + t172.size + 1 + (rdOf ByteArray.empty y173 (ji60)).size + 1 + t178.size + 6 + t180.size) = False := eq_false (Nat.not_lt.2 (by have h_ := c71; simp only [ByteArray.size_append] at h_; exact h_))
    by_cases c72 : ((((((((⟨#[105, 102, 32]⟩ : ByteArray) ++ t172) ++ (⟨#[32]⟩ : ByteArray)) ++ (rdOf ByteArray.empty y173 (ji60))) ++ (⟨#[32]⟩ : ByteArray)) ++ t178) ++ (⟨#[32, 116, 104, 101, 110, 32]⟩ : ByteArray)) ++ t180).size + 6 ≤ 9223372036854775807
    case neg => rw [if_neg c72] at H; exact absurd H (by simp)
    rw [if_pos c72] at H
    have c72b0 := eq_true c72
    have c72b1 := decide_eq_true c72
    try have c72b2 : (9223372036854775807 < ((((((((⟨#[105, 102, 32]⟩ : ByteArray) ++ t172) ++ (⟨#[32]⟩ : ByteArray)) ++ (rdOf ByteArray.empty y173 (ji60))) ++ (⟨#[32]⟩ : ByteArray)) ++ t178) ++ (⟨#[32, 116, 104, 101, 110, 32]⟩ : ByteArray)) ++ t180).size + 6) = False := eq_false (Nat.not_lt.2 c72)
    have c72b3 : (9223372036854775807 < 3 + t172.size + 1 + (rdOf ByteArray.empty y173 (ji60)).size + 1 + t178.size + 6 + t180.size + 6) = False := eq_false (Nat.not_lt.2 (by have h_ := c72; simp only [ByteArray.size_append] at h_; exact h_))
    by_cases c73 : 3 < ((rd_L3 l1 a2).length : Int)
    case neg => rw [if_neg c73] at H; exact absurd H (by simp)
    rw [if_pos c73] at H
    have c73b0 := decide_eq_true c73
    have c73b1 : decide (3 < (rd_L3 l1 a2).length) = true := decide_eq_true (by omega)
    clear c73
    replace H := Option.bind_eq_some_iff.mp H
    obtain ⟨t182, A740, H⟩ := H
    try dsimp only at H
    have A74 := Aside0.mk A740
    clear A740
    by_cases c75 : (((((((((⟨#[105, 102, 32]⟩ : ByteArray) ++ t172) ++ (⟨#[32]⟩ : ByteArray)) ++ (rdOf ByteArray.empty y173 (ji60))) ++ (⟨#[32]⟩ : ByteArray)) ++ t178) ++ (⟨#[32, 116, 104, 101, 110, 32]⟩ : ByteArray)) ++ t180) ++ (⟨#[32, 101, 108, 115, 101, 32]⟩ : ByteArray)).size + t182.size ≤ 9223372036854775807
    case neg => rw [if_neg c75] at H; exact absurd H (by simp)
    rw [if_pos c75] at H
    have c75b0 := eq_true c75
    have c75b1 := decide_eq_true c75
    try have c75b2 : (9223372036854775807 < (((((((((⟨#[105, 102, 32]⟩ : ByteArray) ++ t172) ++ (⟨#[32]⟩ : ByteArray)) ++ (rdOf ByteArray.empty y173 (ji60))) ++ (⟨#[32]⟩ : ByteArray)) ++ t178) ++ (⟨#[32, 116, 104, 101, 110, 32]⟩ : ByteArray)) ++ t180) ++ (⟨#[32, 101, 108, 115, 101, 32]⟩ : ByteArray)).size + t182.size) = False := eq_false (Nat.not_lt.2 c75)
    have c75b3 : (9223372036854775807 < 3 + t172.size + 1 + (rdOf ByteArray.empty y173 (ji60)).size + 1 + t178.size + 6 + t180.size + 6 + t182.size) = False := eq_false (Nat.not_lt.2 (by have h_ := c75; simp only [ByteArray.size_append] at h_; exact h_))
    by_cases c76 : t165 < a3
    ·rw [if_pos c76] at H
     have c76b0 := decide_eq_true c76
     clear c76
     by_cases c77 : 2 + ((((((((((⟨#[105, 102, 32]⟩ : ByteArray) ++ t172) ++ (⟨#[32]⟩ : ByteArray)) ++ (rdOf ByteArray.empty y173 (ji60))) ++ (⟨#[32]⟩ : ByteArray)) ++ t178) ++ (⟨#[32, 116, 104, 101, 110, 32]⟩ : ByteArray)) ++ t180) ++ (⟨#[32, 101, 108, 115, 101, 32]⟩ : ByteArray)) ++ t182).size ≤ 9223372036854775807
     case neg => rw [if_neg c77] at H; exact absurd H (by simp)
     rw [if_pos c77] at H
     have c77b0 := eq_true c77
     have c77b1 := decide_eq_true c77
     try have c77b2 : (9223372036854775807 < 2 + ((((((((((⟨#[105, 102, 32]⟩ : ByteArray) ++ t172) ++ (⟨#[32]⟩ : ByteArray)) ++ (rdOf ByteArray.empty y173 (ji60))) ++ (⟨#[32]⟩ : ByteArray)) ++ t178) ++ (⟨#[32, 116, 104, 101, 110, 32]⟩ : ByteArray)) ++ t180) ++ (⟨#[32, 101, 108, 115, 101, 32]⟩ : ByteArray)) ++ t182).size) = False := eq_false (Nat.not_lt.2 c77)
     have c77b3 : (9223372036854775807 < 2 + (3 + t172.size + 1 + (rdOf ByteArray.empty y173 (ji60)).size + 1 + t178.size + 6 + t180.size + 6 + t182.size)) = False := eq_false (Nat.not_lt.2 (by have h_ := c77; simp only [ByteArray.size_append] at h_; exact h_))
     by_cases c78 : ((⟨#[40, 32]⟩ : ByteArray) ++ ((((((((((⟨#[105, 102, 32]⟩ : ByteArray) ++ t172) ++ (⟨#[32]⟩ : ByteArray)) ++ (rdOf ByteArray.empty y173 (ji60))) ++ (⟨#[32]⟩ : ByteArray)) ++ t178) ++ (⟨#[32, 116, 104, 101, 110, 32]⟩ : ByteArray)) ++ t180) ++ (⟨#[32, 101, 108, 115, 101, 32]⟩ : ByteArray)) ++ t182)).size + 2 ≤ 9223372036854775807
     case neg => rw [if_neg c78] at H; exact absurd H (by simp)
     refine ?z7_
     let rec p7_ : type_of% ?z7_ := by(
     rw [if_pos c78] at H
     have c78b0 := eq_true c78
     have c78b1 := decide_eq_true c78
     try have c78b2 : (9223372036854775807 < ((⟨#[40, 32]⟩ : ByteArray) ++ ((((((((((⟨#[105, 102, 32]⟩ : ByteArray) ++ t172) ++ (⟨#[32]⟩ : ByteArray)) ++ (rdOf ByteArray.empty y173 (ji60))) ++ (⟨#[32]⟩ : ByteArray)) ++ t178) ++ (⟨#[32, 116, 104, 101, 110, 32]⟩ : ByteArray)) ++ t180) ++ (⟨#[32, 101, 108, 115, 101, 32]⟩ : ByteArray)) ++ t182)).size + 2) = False := eq_false (Nat.not_lt.2 c78)
     have c78b3 : (9223372036854775807 < 2 + (3 + t172.size + 1 + (rdOf ByteArray.empty y173 (ji60)).size + 1 + t178.size + 6 + t180.size + 6 + t182.size) + 2) = False := eq_false (Nat.not_lt.2 (by have h_ := c78; simp only [ByteArray.size_append] at h_; exact h_))
     obtain rfl := Option.some.inj H
     go_enter Tryd.func18, Tryd.ntmps18
     try go_wp2
     replace HB := Aside0.mk (below_drew1 HB.out)
     have p162 : 0 ≤ (a2 : Int) := of_decide_eq_true (by first | (with_reducible assumption) | assumption)
     have q162 : a2 < (l0.length : Int) := of_decide_eq_true (by first | (with_reducible assumption) | assumption)
     obtain ⟨ad162, e162, hx162_0, hx162_1⟩ := at_T33 HR0.out a2 p162 q162
     have hw162_1 := hx162_1
     have hw162_0 := hx162_0
     cases e162
     replace hx162_0 := hc_ HB hx162_0
     replace hx162_1 := hc_ HB hx162_1
     replace p162 := eq_true p162
     replace q162 := eq_true q162
     have p163 : 0 ≤ (a2 : Int) := of_decide_eq_true (by first | (with_reducible assumption) | assumption)
     have q163 : a2 < (l1.length : Int) := of_decide_eq_true (by first | (with_reducible assumption) | assumption)
     obtain ⟨ad163, A163_0, c163_0, e163, hx163_0, hl163_0, hi163_0⟩ := at_L3 HR1.out a2 p163 q163
     have hw163_0 := hx163_0
     cases e163
     replace hx163_0 := hc_ HB hx163_0
     have HR163_0 := Aside0.mk hi163_0
     have HC163_0 := Aside0.mk hl163_0
     clear hi163_0 hl163_0
     replace p163 := eq_true p163
     replace q163 := eq_true q163
     refine start_ (n := 11) (S := fun w' => w'.cell? (ad162.add ((a2).toNat * 2)) = some (.int .i64 ((rd_T33 l0 a2).f0)) ∧ w'.cell? ⟨(ad162.add ((a2).toNat * 2)).block, (ad162.add ((a2).toNat * 2)).off + 1, none⟩ = some (.int .i64 ((rd_T33 l0 a2).f1)) ∧ w'.cell? (ad163.add (a2).toNat) = some (.slice A163_0 (rd_L3 l1 a2).length c163_0)) (ds := []) (bb 11 0) (by kernel_rfl) rfl rfl ⟨((HB.out.cell (World.block_lt_of_cell? w _ hw162_0)).trans hw162_0), ((HB.out.cell (World.block_lt_of_cell? w _ hw162_1)).trans hw162_1), ((HB.out.cell (World.block_lt_of_cell? w _ hw163_0)).trans hw163_0)⟩ (fun hHeld => ?_); refine with_tabW spec_ruShow.tab1 spec_ruShow.bits1 (fun HT_ HW_ => ?_)
     generalize w.drew = w79 at HB HR163_0 hx162_0 hx162_1 hx163_0 hHeld ⊢
     refine pl_ HT_ 0 (some 13) (bb 11 1) (h := ?_)
     refine pl_ HT_ 1 (some 14) (bb 11 3) (h := ?_)
     refine pl_ HT_ 2 (some 15) (bb 11 7) (h := ?_)
     refine pl_ HT_ 4 (some 17) (bb 11 23) (h := ?_)
     refine pl_ HT_ 5 (some 18) (bb 11 55) (h := ?_)
     refine pl_ HT_ 6 (some 19) (bb 11 119) (h := ?_)
     refine tk_ HT_ HW_ hHeld 3 (some 16) (bb 11 127) (h := ?_)
     refine tk_ HT_ HW_ hHeld 7 (some 20) (bb 11 255) (h := ?_)
     refine one_ (i := 8) (N := some 9) (bb 11 511) rfl rfl (one_of HT_.out (by kernel_rfl)) (by decide) (fun K hK => ?_)
     refine box_step ?hg (N := 9) ?hd (cs := #[.int .i64 0, .int .i64 0]) (t := 33) ?hr ?_; (case hd => rfl); (case hg => rfl); (case hr => first | (go_simp; done) | (go_simp; rfl))
     intro gb164 hg w80 hbox hb
     have n0_ := Aside0.mk (below_step (hb_ HB) hb)
     have n1_ := Aside0.mk (hbox)
     have n2_ := Aside0.mk ((by rw [hg]; exact (below_size (hb_ HB)) : w.heap.size ≤ gb164))
     have n3_ := Aside0.mk ((by rw [hg]; exact (below_size (hb_ HB)) : w.heap.size ≤ gb164))
     clear HB
     have HB := n0_
     have BK164 := n1_
     have GW164 := n2_
     have GE164 := n3_
     clear n0_ n1_ n2_ n3_
     clear hb hbox hg
     refine hK.out _ _ ⟨((HB.out.cell (World.block_lt_of_cell? w _ hw162_0)).trans hw162_0), ((HB.out.cell (World.block_lt_of_cell? w _ hw162_1)).trans hw162_1), ((HB.out.cell (World.block_lt_of_cell? w _ hw163_0)).trans hw163_0)⟩ (fun hHeld => ?_)
     clear hK K
     refine nm_ (some 9) (h := ?_)
     refine one_ (i := 9) (N := none) (bb 11 1023) rfl rfl (one_of HT_.out (by kernel_rfl)) (by decide) (fun K hK => ?_)
     have hs81 : w80.cell? ⟨gb164, 0, none⟩ = some (.int .i64 0) := (blk_cell BK164.out 0).trans rfl
     have hfs81 := blk_frozen BK164.out 0
     have hs82 : w80.cell? ⟨gb164, 1, none⟩ = some (.int .i64 0) := (blk_cell BK164.out 1).trans rfl
     have hfs82 := blk_frozen BK164.out 1
     refine skip_ (w1 := ?_) (by rfl) rfl ?_ ?_
     rotate_left
     ·go_simp
      rfl
     refine hK.out _ _ ⟨((cell_far (p := ⟨gb164, _, none⟩) (by first | exact Nat.ne_of_lt (Nat.lt_of_lt_of_le (by have := World.block_lt_of_cell? _ _ hw162_0; first | rwa [add_block] at this | exact this) GW164.out) | (rw [add_block]; exact Nat.ne_of_lt (Nat.lt_of_lt_of_le (by have := World.block_lt_of_cell? _ _ hw162_0; first | rwa [add_block] at this | exact this) GW164.out)) | (show (Addr.add _ _).block ≠ _; rw [add_block]; exact Nat.ne_of_lt (Nat.lt_of_lt_of_le (by have := World.block_lt_of_cell? _ _ hw162_0; first | rwa [add_block] at this | exact this) GW164.out)) | (dsimp only; exact Nat.ne_of_lt (Nat.lt_of_lt_of_le (by have := World.block_lt_of_cell? _ _ hw162_0; first | rwa [add_block] at this | exact this) GW164.out))) _).trans (((cell_far (p := ⟨gb164, _, none⟩) (by first | exact Nat.ne_of_lt (Nat.lt_of_lt_of_le (by have := World.block_lt_of_cell? _ _ hw162_0; first | rwa [add_block] at this | exact this) GW164.out) | (rw [add_block]; exact Nat.ne_of_lt (Nat.lt_of_lt_of_le (by have := World.block_lt_of_cell? _ _ hw162_0; first | rwa [add_block] at this | exact this) GW164.out)) | (show (Addr.add _ _).block ≠ _; rw [add_block]; exact Nat.ne_of_lt (Nat.lt_of_lt_of_le (by have := World.block_lt_of_cell? _ _ hw162_0; first | rwa [add_block] at this | exact this) GW164.out)) | (dsimp only; exact Nat.ne_of_lt (Nat.lt_of_lt_of_le (by have := World.block_lt_of_cell? _ _ hw162_0; first | rwa [add_block] at this | exact this) GW164.out))) _).trans (hHeld.1)))), ((cell_far (p := ⟨gb164, _, none⟩) (by first | exact Nat.ne_of_lt (Nat.lt_of_lt_of_le (by have := World.block_lt_of_cell? _ _ hw162_1; first | rwa [add_block] at this | exact this) GW164.out) | (rw [add_block]; exact Nat.ne_of_lt (Nat.lt_of_lt_of_le (by have := World.block_lt_of_cell? _ _ hw162_1; first | rwa [add_block] at this | exact this) GW164.out)) | (show (Addr.add _ _).block ≠ _; rw [add_block]; exact Nat.ne_of_lt (Nat.lt_of_lt_of_le (by have := World.block_lt_of_cell? _ _ hw162_1; first | rwa [add_block] at this | exact this) GW164.out)) | (dsimp only; exact Nat.ne_of_lt (Nat.lt_of_lt_of_le (by have := World.block_lt_of_cell? _ _ hw162_1; first | rwa [add_block] at this | exact this) GW164.out))) _).trans (((cell_far (p := ⟨gb164, _, none⟩) (by first | exact Nat.ne_of_lt (Nat.lt_of_lt_of_le (by have := World.block_lt_of_cell? _ _ hw162_1; first | rwa [add_block] at this | exact this) GW164.out) | (rw [add_block]; exact Nat.ne_of_lt (Nat.lt_of_lt_of_le (by have := World.block_lt_of_cell? _ _ hw162_1; first | rwa [add_block] at this | exact this) GW164.out)) | (show (Addr.add _ _).block ≠ _; rw [add_block]; exact Nat.ne_of_lt (Nat.lt_of_lt_of_le (by have := World.block_lt_of_cell? _ _ hw162_1; first | rwa [add_block] at this | exact this) GW164.out)) | (dsimp only; exact Nat.ne_of_lt (Nat.lt_of_lt_of_le (by have := World.block_lt_of_cell? _ _ hw162_1; first | rwa [add_block] at this | exact this) GW164.out))) _).trans (hHeld.2.1)))), ((cell_far (p := ⟨gb164, _, none⟩) (by first | exact Nat.ne_of_lt (Nat.lt_of_lt_of_le (by have := World.block_lt_of_cell? _ _ hw163_0; first | rwa [add_block] at this | exact this) GW164.out) | (rw [add_block]; exact Nat.ne_of_lt (Nat.lt_of_lt_of_le (by have := World.block_lt_of_cell? _ _ hw163_0; first | rwa [add_block] at this | exact this) GW164.out)) | (show (Addr.add _ _).block ≠ _; rw [add_block]; exact Nat.ne_of_lt (Nat.lt_of_lt_of_le (by have := World.block_lt_of_cell? _ _ hw163_0; first | rwa [add_block] at this | exact this) GW164.out)) | (dsimp only; exact Nat.ne_of_lt (Nat.lt_of_lt_of_le (by have := World.block_lt_of_cell? _ _ hw163_0; first | rwa [add_block] at this | exact this) GW164.out))) _).trans (((cell_far (p := ⟨gb164, _, none⟩) (by first | exact Nat.ne_of_lt (Nat.lt_of_lt_of_le (by have := World.block_lt_of_cell? _ _ hw163_0; first | rwa [add_block] at this | exact this) GW164.out) | (rw [add_block]; exact Nat.ne_of_lt (Nat.lt_of_lt_of_le (by have := World.block_lt_of_cell? _ _ hw163_0; first | rwa [add_block] at this | exact this) GW164.out)) | (show (Addr.add _ _).block ≠ _; rw [add_block]; exact Nat.ne_of_lt (Nat.lt_of_lt_of_le (by have := World.block_lt_of_cell? _ _ hw163_0; first | rwa [add_block] at this | exact this) GW164.out)) | (dsimp only; exact Nat.ne_of_lt (Nat.lt_of_lt_of_le (by have := World.block_lt_of_cell? _ _ hw163_0; first | rwa [add_block] at this | exact this) GW164.out))) _).trans (hHeld.2.2))))⟩ (fun hHeld => ?_)
     clear hK K
     refine pl_ HT_ 10 (some 10) (bb 11 2047) (h := ?_)
     refine done_ (done_of HT_.out (by kernel_rfl)) ?_
     obtain ⟨hcz83_0, hcz83_1, hfz83_0, hfz83_1⟩ := bx2 BK164
     try go_wp2_with (first | ((with_reducible refine gate_callee (f := 26) rfl ?_); refine gl_ (some 23) Tryd.func26 #[.int .i64 ((rd_T33 l0 a2).f0)] rfl rfl rfl ?_; (with_reducible refine (spec_ruLevel.calls ((rd_T33 l0 a2).f0) t165 _ A8.out).mono ?_); rintro e w' ⟨rfl, ⟨nd, rfl⟩⟩; refine ⟨_, rfl, ?_⟩))
     have pi176 : (0 ≤ ((ji60) : Int)) = True := eq_true (of_decide_eq_true (by first | (with_reducible assumption) | assumption))
     have qi176 : ((ji60) < (y173.length : Int)) = True := eq_true (of_decide_eq_true (by first | (with_reducible assumption) | assumption))
     have n0_ : Aside0 (((w80.setCell ⟨gb164, 0, none⟩ (.int .i64 ((rd_T33 l0 a2).f0))).setCell ⟨gb164, 1, none⟩ (.int .i64 ((rd_T33 l0 a2).f1))).heap[gb164]? = some (.cells #[.int .i64 ((rd_T33 l0 a2).f0), .int .i64 ((rd_T33 l0 a2).f1)] 33 (0, 0))) := ⟨kpq_ (kputs BK164 [(0, _), (1, _)])⟩
     have n1_ : Aside0 (Below w.heap.size w ((w80.setCell ⟨gb164, 0, none⟩ (.int .i64 ((rd_T33 l0 a2).f0))).setCell ⟨gb164, 1, none⟩ (.int .i64 ((rd_T33 l0 a2).f1)))) := ⟨hb_ HB⟩
     generalize ((w80.setCell ⟨gb164, 0, none⟩ (.int .i64 ((rd_T33 l0 a2).f0))).setCell ⟨gb164, 1, none⟩ (.int .i64 ((rd_T33 l0 a2).f1))) = w84 at n0_ n1_ ⊢
     have BK164 := n0_
     have HB := n1_
     clear n0_ n1_
     (try (rw [drewN_self w84]; generalize hq_ : World.drewN w84 _ = w84; have n0_ : Aside0 (w84.heap[gb164]? = some (.cells #[.int .i64 ((rd_T33 l0 a2).f0), .int .i64 ((rd_T33 l0 a2).f1)] 33 (0, 0))) := ⟨by rw [← hq_]; exact (kp_ BK164)⟩; have n1_ : Aside0 (Below w.heap.size w w84) := ⟨by rw [← hq_]; exact (hb_ HB)⟩; clear BK164 HB hq_; have BK164 := n0_; have HB := n1_; clear n0_ n1_))
     replace BK164 := Aside0.mk (blk_drew BK164.out)
     replace HB := Aside0.mk (below_drew1 HB.out)
     have p171 : 0 ≤ (0 : Int) := (by omega)
     have q171 : 0 < ((rd_L3 l1 a2).length : Int) := of_decide_eq_true (by first | (with_reducible assumption) | assumption)
     obtain ⟨ad171, e171, hx171_0⟩ := Kd.at_int HR163_0.out 0 p171 q171
     have hw171_0 := hx171_0
     (try rw [show ((0 : Int)).toNat = 0 from rfl] at hw171_0)
     (try rw [show 0 * 1 = 0 from rfl] at hw171_0)
     (try rw [Addr.add_zero'] at hw171_0)
     cases e171
     have qi171 : (0 < (rd_L3 l1 a2).length) = True := eq_true (by omega)
     (try rw [show ((0 : Int)).toNat = 0 from rfl] at hx171_0)
     (try rw [Addr.add_zero'] at hx171_0)
     replace hx171_0 := hc_ HB hx171_0
     replace p171 := eq_true p171
     replace q171 := eq_true q171
     have p177 : 0 ≤ (1 : Int) := (by omega)
     have q177 : 1 < ((rd_L3 l1 a2).length : Int) := of_decide_eq_true (by first | (with_reducible assumption) | assumption)
     obtain ⟨ad177, e177, hx177_0⟩ := Kd.at_int HR163_0.out 1 p177 q177
     have hw177_0 := hx177_0
     (try rw [show ((1 : Int)).toNat = 1 from rfl] at hw177_0)
     (try rw [show 1 * 1 = 1 from rfl] at hw177_0)
     (try simp only [Nat.reduceMul, Nat.reduceEqDiff, Go.Addr.add, ↓reduceIte] at hw177_0)
     obtain rfl : ad171 = ad177 := (by injection e177)
     (try simp only [show (1 : Int).toNat = 1 from rfl, Nat.reduceMul, Nat.reduceEqDiff, Go.Addr.add, ↓reduceIte] at hx177_0)
     have qi177 : (1 < (rd_L3 l1 a2).length) = True := eq_true (by omega)
     (try rw [show ((1 : Int)).toNat = 1 from rfl] at hx177_0)
     replace hx177_0 := hc_ HB hx177_0
     replace p177 := eq_true p177
     replace q177 := eq_true q177
     have p179 : 0 ≤ (2 : Int) := (by omega)
     have q179 : 2 < ((rd_L3 l1 a2).length : Int) := of_decide_eq_true (by first | (with_reducible assumption) | assumption)
     obtain ⟨ad179, e179, hx179_0⟩ := Kd.at_int HR163_0.out 2 p179 q179
     have hw179_0 := hx179_0
     (try rw [show ((2 : Int)).toNat = 2 from rfl] at hw179_0)
     (try rw [show 2 * 1 = 2 from rfl] at hw179_0)
     (try simp only [Nat.reduceMul, Nat.reduceEqDiff, Go.Addr.add, ↓reduceIte] at hw179_0)
     obtain rfl : ad171 = ad179 := (by injection e179)
     (try simp only [show (2 : Int).toNat = 2 from rfl, Nat.reduceMul, Nat.reduceEqDiff, Go.Addr.add, ↓reduceIte] at hx179_0)
     have qi179 : (2 < (rd_L3 l1 a2).length) = True := eq_true (by omega)
     (try rw [show ((2 : Int)).toNat = 2 from rfl] at hx179_0)
     replace hx179_0 := hc_ HB hx179_0
     replace p179 := eq_true p179
     replace q179 := eq_true q179
     have p181 : 0 ≤ (3 : Int) := (by omega)
     have q181 : 3 < ((rd_L3 l1 a2).length : Int) := of_decide_eq_true (by first | (with_reducible assumption) | assumption)
     obtain ⟨ad181, e181, hx181_0⟩ := Kd.at_int HR163_0.out 3 p181 q181
     have hw181_0 := hx181_0
     (try rw [show ((3 : Int)).toNat = 3 from rfl] at hw181_0)
     (try rw [show 3 * 1 = 3 from rfl] at hw181_0)
     (try simp only [Nat.reduceMul, Nat.reduceEqDiff, Go.Addr.add, ↓reduceIte] at hw181_0)
     obtain rfl : ad171 = ad181 := (by injection e181)
     (try simp only [show (3 : Int).toNat = 3 from rfl, Nat.reduceMul, Nat.reduceEqDiff, Go.Addr.add, ↓reduceIte] at hx181_0)
     have qi181 : (3 < (rd_L3 l1 a2).length) = True := eq_true (by omega)
     (try rw [show ((3 : Int)).toNat = 3 from rfl] at hx181_0)
     replace hx181_0 := hc_ HB hx181_0
     replace p181 := eq_true p181
     replace q181 := eq_true q181
     refine start_ (n := 40) (S := fun w' => True) (ds := []) (bb 40 0) (by kernel_rfl) rfl rfl trivial (fun hHeld => ?_); refine with_tabW spec_ruShow.tab11 spec_ruShow.bits11 (fun HT_ HW_ => ?_)
     generalize w84.drew = w85 at BK164 HB hx171_0 hx177_0 hx179_0 hx181_0 hHeld ⊢
     refine pl_ HT_ 0 (some 65) (bb 40 1) (h := ?_)
     refine pl_ HT_ 1 (some 66) (bb 40 3) (h := ?_)
     refine pl_ HT_ 2 (some 67) (bb 40 7) (h := ?_)
     refine pl_ HT_ 9 (some 74) (bb 40 519) (h := ?_)
     refine pl_ HT_ 16 (some 81) (bb 40 66055) (h := ?_)
     refine pl_ HT_ 17 (some 82) (bb 40 197127) (h := ?_)
     refine pl_ HT_ 18 (some 83) (bb 40 459271) (h := ?_)
     refine pl_ HT_ 24 (some 89) (bb 40 17236487) (h := ?_)
     refine pl_ HT_ 25 (some 90) (bb 40 50790919) (h := ?_)
     refine pl_ HT_ 26 (some 91) (bb 40 117899783) (h := ?_)
     refine pl_ HT_ 32 (some 97) (bb 40 4412867079) (h := ?_)
     refine pl_ HT_ 33 (some 98) (bb 40 13002801671) (h := ?_)
     refine pl_ HT_ 34 (some 99) (bb 40 30182670855) (h := ?_)
     refine inv_at [3, 4, 5, 6, 7, 8, 10, 11, 12, 13, 14, 15, 19, 20, 21, 22, 23, 27, 28, 29, 30, 31, 35, 36, 37, 38, 39] (fun a0_ b a w' => ∃ (v174 : Value) (adz_v174 : Addr) (m12_ : Value), a = putSel a0_ b [(3, 68, .pointer (some ad171)), (4, 69, .int .i64 (rd (rd_L3 l1 a2) 0)), (5, 70, .string t172), (6, 71, .string ((⟨#[105, 102, 32]⟩ : ByteArray) ++ t172)), (7, 72, .string (((⟨#[105, 102, 32]⟩ : ByteArray) ++ t172) ++ (⟨#[32]⟩ : ByteArray))), (8, 73, v174), (10, 75, .int .i64 ((rd_T33 l0 a2).f0)), (11, 76, .int .i64 ji60), (12, 77, m12_), (13, 78, .string (rdOf ByteArray.empty y173 (ji60))), (14, 79, .string ((((⟨#[105, 102, 32]⟩ : ByteArray) ++ t172) ++ (⟨#[32]⟩ : ByteArray)) ++ (rdOf ByteArray.empty y173 (ji60)))), (15, 80, .string (((((⟨#[105, 102, 32]⟩ : ByteArray) ++ t172) ++ (⟨#[32]⟩ : ByteArray)) ++ (rdOf ByteArray.empty y173 (ji60))) ++ (⟨#[32]⟩ : ByteArray))), (19, 84, .pointer (some (ad171.add 1))), (20, 85, .int .i64 (rd (rd_L3 l1 a2) 1)), (21, 86, .string t178), (22, 87, .string ((((((⟨#[105, 102, 32]⟩ : ByteArray) ++ t172) ++ (⟨#[32]⟩ : ByteArray)) ++ (rdOf ByteArray.empty y173 (ji60))) ++ (⟨#[32]⟩ : ByteArray)) ++ t178)), (23, 88, .string (((((((⟨#[105, 102, 32]⟩ : ByteArray) ++ t172) ++ (⟨#[32]⟩ : ByteArray)) ++ (rdOf ByteArray.empty y173 (ji60))) ++ (⟨#[32]⟩ : ByteArray)) ++ t178) ++ (⟨#[32, 116, 104, 101, 110, 32]⟩ : ByteArray))), (27, 92, .pointer (some (ad171.add 2))), (28, 93, .int .i64 (rd (rd_L3 l1 a2) 2)), (29, 94, .string t180), (30, 95, .string ((((((((⟨#[105, 102, 32]⟩ : ByteArray) ++ t172) ++ (⟨#[32]⟩ : ByteArray)) ++ (rdOf ByteArray.empty y173 (ji60))) ++ (⟨#[32]⟩ : ByteArray)) ++ t178) ++ (⟨#[32, 116, 104, 101, 110, 32]⟩ : ByteArray)) ++ t180)), (31, 96, .string (((((((((⟨#[105, 102, 32]⟩ : ByteArray) ++ t172) ++ (⟨#[32]⟩ : ByteArray)) ++ (rdOf ByteArray.empty y173 (ji60))) ++ (⟨#[32]⟩ : ByteArray)) ++ t178) ++ (⟨#[32, 116, 104, 101, 110, 32]⟩ : ByteArray)) ++ t180) ++ (⟨#[32, 101, 108, 115, 101, 32]⟩ : ByteArray))), (35, 100, .pointer (some (ad171.add 3))), (36, 101, .int .i64 (rd (rd_L3 l1 a2) 3)), (37, 102, .string t182), (38, 103, .string ((((((((((⟨#[105, 102, 32]⟩ : ByteArray) ++ t172) ++ (⟨#[32]⟩ : ByteArray)) ++ (rdOf ByteArray.empty y173 (ji60))) ++ (⟨#[32]⟩ : ByteArray)) ++ t178) ++ (⟨#[32, 116, 104, 101, 110, 32]⟩ : ByteArray)) ++ t180) ++ (⟨#[32, 101, 108, 115, 101, 32]⟩ : ByteArray)) ++ t182)), (39, 12, .string ((((((((((⟨#[105, 102, 32]⟩ : ByteArray) ++ t172) ++ (⟨#[32]⟩ : ByteArray)) ++ (rdOf ByteArray.empty y173 (ji60))) ++ (⟨#[32]⟩ : ByteArray)) ++ t178) ++ (⟨#[32, 116, 104, 101, 110, 32]⟩ : ByteArray)) ++ t180) ++ (⟨#[32, 101, 108, 115, 101, 32]⟩ : ByteArray)) ++ t182))] ∧ (w'.heap[gb164]? = some (.cells #[.int .i64 ((rd_T33 l0 a2).f0), .int .i64 ((rd_T33 l0 a2).f1)] 33 (0, 0))) ∧ (Below w.heap.size w w') ∧ (b 8 = true → Kd.R Kd.string 9 w' w.heap.size (fun _ => True) v174 y173) ∧ (b 8 = true → ∃ c_, (v174 : Value) = .slice (some adz_v174) y173.length c_) ∧ (b 12 = true → (m12_ : Value) = .pointer (some (adz_v174.add ((ji60)).toNat)))) HT_.out HW_.out (by kernel_rfl) (by kernel_rfl) ?_ ?_ ?_
     ·exact ⟨.bool false, ⟨0, 0, none⟩, .bool false, by simp only [putSel, Bool.false_eq_true, if_false], BK164.out, HB.out, fun h_ => absurd h_ (by decide), fun h_ => absurd h_ (by decide), fun h_ => absurd h_ (by decide)⟩
     ·refine ?z8_
      let rec p8_ : type_of% ?z8_ := by(
      skip
      clear BK164 HB
      refine steps_cons ?_ ?_
      ·rintro b a w' ⟨v174, adz_v174, m12_, ha, Q_BK164, Q_HB, Q_HO175, Q_HA_HO175, Q_X12_⟩ hbq_ hon hoff
       refine ⟨_, rfl, fun K hK => ?_⟩
       have e67 : a.tmps[67]? = some (.slice (some ad171) (rd_L3 l1 a2).length c163_0) := by rw [ha]; exact (putSel_off rfl).trans rfl
       replace ha := Aside0.mk ha
       have BK164 := Aside0.mk Q_BK164
       have HB := Aside0.mk Q_HB
       have hs0_ : w'.cell? ad171 = some (.int .i64 (rd (rd_L3 l1 a2) 0)) := ((HB.out.cell (World.block_lt_of_cell? w _ hw171_0)).trans hw171_0)
       refine value_ (w1 := w') (v := .pointer (some ad171)) (by rfl) rfl ?_ ?_
       ·go_simp
        (try simp only [i64_w])
        try rfl
       refine hK.out _ _ ⟨v174, adz_v174, m12_, (by rw [ha.out]; exact putSel_upk 0 hbq_ rfl rfl rfl), Q_BK164, Q_HB, Q_HO175, Q_HA_HO175, Q_X12_⟩
      refine steps_cons ?_ ?_
      ·rintro b a w' ⟨v174, adz_v174, m12_, ha, Q_BK164, Q_HB, Q_HO175, Q_HA_HO175, Q_X12_⟩ hbq_ hon hoff
       refine ⟨_, rfl, fun K hK => ?_⟩
       have e68 : a.tmps[68]? = some (.pointer (some ad171)) := by rw [ha]; exact putSel_on (e := (3, 68, .pointer (some ad171))) 0 rfl rfl (hon 3 (by kernel_rfl)) rfl
       replace ha := Aside0.mk ha
       have BK164 := Aside0.mk Q_BK164
       have HB := Aside0.mk Q_HB
       have hs0_ : w'.cell? ad171 = some (.int .i64 (rd (rd_L3 l1 a2) 0)) := ((HB.out.cell (World.block_lt_of_cell? w _ hw171_0)).trans hw171_0)
       refine value_ (w1 := w') (v := .int .i64 (rd (rd_L3 l1 a2) 0)) (by rfl) rfl ?_ ?_
       ·go_simp
        (try simp only [i64_w])
        try rfl
       refine hK.out _ _ ⟨v174, adz_v174, m12_, (by rw [ha.out]; exact putSel_upk 1 hbq_ rfl rfl rfl), Q_BK164, Q_HB, Q_HO175, Q_HA_HO175, Q_X12_⟩
      refine steps_cons ?_ ?_
      ·rintro b a w' ⟨v174, adz_v174, m12_, ha, Q_BK164, Q_HB, Q_HO175, Q_HA_HO175, Q_X12_⟩ hbq_ hon hoff
       refine ⟨_, rfl, fun K hK => ?_⟩
       have e65 : a.tmps[65]? = some (.slice (some ad162) l0.length c0) := by rw [ha]; exact (putSel_off rfl).trans rfl
       have e66 : a.tmps[66]? = some (.slice (some ad163) l1.length c1) := by rw [ha]; exact (putSel_off rfl).trans rfl
       have e69 : a.tmps[69]? = some (.int .i64 (rd (rd_L3 l1 a2) 0)) := by rw [ha]; exact putSel_on (e := (4, 69, .int .i64 (rd (rd_L3 l1 a2) 0))) 1 rfl rfl (hon 4 (by kernel_rfl)) rfl
       replace ha := Aside0.mk ha
       have BK164 := Aside0.mk Q_BK164
       have HB := Aside0.mk Q_HB
       refine goes_ Tryd.func18 (by kernel_rfl) rfl #[.slice (some ad162) l0.length c0, .slice (some ad163) l1.length c1, .int .i64 (rd (rd_L3 l1 a2) 0), .int .i64 1] (by rfl) rfl rfl (by first | (simp only [List.map_toArray, List.map_cons, List.map_nil, Act.eval, Array.getD_eq_getD_getElem?, Option.getD_some, e65, e66, e69]; done) | (simp only [List.map_toArray, List.map_cons, List.map_nil, Act.eval, Array.getD_eq_getD_getElem?, Option.getD_some, e65, e66, e69]; rfl)) ?_
       with_reducible refine (ih k (by omega) _ _ l0 _ _ l1 (rd (rd_L3 l1 a2) 0) 1 t172 _ ?side1 ?side2 ?side3 ?side4 A57.out).mono ?_
       (case side1 => exact Kd.C_w HR0 HB)
       (case side2 => exact HC0.out)
       (case side3 => exact Kd.C_w HR1 HB)
       (case side4 => exact HC1.out)
       rintro e w86 ⟨rfl, hb⟩
       refine ⟨_, rfl, ?_⟩
       have n0_ := Aside0.mk (blk_below (kp_ BK164) hb)
       have n1_ := Aside0.mk (below_step (hb_ HB) hb)
       have z_HO175 := fun (h0_ : b 8 = true) => (show Kd.R Kd.string 9 w86 w.heap.size (fun _ => True) v174 y173 from by first | exact (Kd.R_below (Kd.R_pp ((Q_HO175 h0_))) hb) | exact Kd.R_mono (Kd.R_below (Kd.R_pp ((Q_HO175 h0_))) hb) (fun _ h_ => by first | trivial | exact h_ | exact h_.1))
       clear BK164
       clear HB
       have BK164 := n0_
       have HB := n1_
       clear n0_ n1_
       refine hK.out _ _ ⟨v174, adz_v174, m12_, (by rw [ha.out]; exact putSel_upk 2 hbq_ rfl rfl rfl), (kp_ BK164), (hb_ HB), z_HO175, Q_HA_HO175, Q_X12_⟩
      refine steps_cons ?_ ?_
      ·rintro b a w' ⟨v174, adz_v174, m12_, ha, Q_BK164, Q_HB, Q_HO175, Q_HA_HO175, Q_X12_⟩ hbq_ hon hoff
       refine ⟨_, rfl, fun K hK => ?_⟩
       have e70 : a.tmps[70]? = some (.string t172) := by rw [ha]; exact putSel_on (e := (5, 70, .string t172)) 2 rfl rfl (hon 5 (by kernel_rfl)) rfl
       replace ha := Aside0.mk ha
       have BK164 := Aside0.mk Q_BK164
       have HB := Aside0.mk Q_HB
       refine value_ (w1 := w') (v := .string ((⟨#[105, 102, 32]⟩ : ByteArray) ++ t172)) (by rfl) rfl ?_ ?_
       ·go_simp
        (try simp only [i64_w])
        try rfl
       refine hK.out _ _ ⟨v174, adz_v174, m12_, (by rw [ha.out]; exact putSel_upk 3 hbq_ rfl rfl rfl), Q_BK164, Q_HB, Q_HO175, Q_HA_HO175, Q_X12_⟩
      refine steps_cons ?_ ?_
      ·rintro b a w' ⟨v174, adz_v174, m12_, ha, Q_BK164, Q_HB, Q_HO175, Q_HA_HO175, Q_X12_⟩ hbq_ hon hoff
       refine ⟨_, rfl, fun K hK => ?_⟩
       have e71 : a.tmps[71]? = some (.string ((⟨#[105, 102, 32]⟩ : ByteArray) ++ t172)) := by rw [ha]; exact putSel_on (e := (6, 71, .string ((⟨#[105, 102, 32]⟩ : ByteArray) ++ t172))) 3 rfl rfl (hon 6 (by kernel_rfl)) rfl
       replace ha := Aside0.mk ha
       have BK164 := Aside0.mk Q_BK164
       have HB := Aside0.mk Q_HB
       refine value_ (w1 := w') (v := .string (((⟨#[105, 102, 32]⟩ : ByteArray) ++ t172) ++ (⟨#[32]⟩ : ByteArray))) (by rfl) rfl ?_ ?_
       ·go_simp
        (try simp only [i64_w])
        try rfl
       refine hK.out _ _ ⟨v174, adz_v174, m12_, (by rw [ha.out]; exact putSel_upk 4 hbq_ rfl rfl rfl), Q_BK164, Q_HB, Q_HO175, Q_HA_HO175, Q_X12_⟩
      refine steps_cons ?_ ?_
      ·rintro b a w' ⟨v174, adz_v174, m12_, ha, Q_BK164, Q_HB, Q_HO175, Q_HA_HO175, Q_X12_⟩ hbq_ hon hoff
       refine ⟨_, rfl, fun K hK => ?_⟩
       replace ha := Aside0.mk ha
       have BK164 := Aside0.mk Q_BK164
       have HB := Aside0.mk Q_HB
       refine Kd.R_lit_step Kd.string _ 9 ?hg (N := 73) ?hd (xs := ([(⟨#[60]⟩ : ByteArray), (⟨#[61]⟩ : ByteArray), (⟨#[62]⟩ : ByteArray)] : List ByteArray)) (inner := [.string (⟨#[60]⟩ : ByteArray), .string (⟨#[61]⟩ : ByteArray), .string (⟨#[62]⟩ : ByteArray)]) (ok := fun _ => True) (okp := fun _ => True) ?hr ?hp (fun _ hk => hk) trivial (Below.refl _ _) (Nat.le_refl _) (by simp) ?_; (case hd => rfl); (case hg => rfl); (case hr => first | (go_simp; done) | (go_simp; rfl)); (case hp => exact (Reps.one (show Kd.M Kd.string _ _ _ (⟨#[60]⟩ : ByteArray) [.string (⟨#[60]⟩ : ByteArray)] from rfl) (Reps.one (show Kd.M Kd.string _ _ _ (⟨#[61]⟩ : ByteArray) [.string (⟨#[61]⟩ : ByteArray)] from rfl) (Reps.one (show Kd.M Kd.string _ _ _ (⟨#[62]⟩ : ByteArray) [.string (⟨#[62]⟩ : ByteArray)] from rfl) (Reps.none _ _)))))
       intro v174 w86 ho87 hb hg_ hnew_
       clear hg_ hnew_
       (first | rw [← Ny173.out] at ho87 | (simp only [Int.reduceToNat] at ho87; rw [← Ny173.out] at ho87))
       have HO175 := Aside0.mk (Kd.R_lower ho87 (below_size (hb_ HB)))
       replace BK164 := Aside0.mk (blk_below (kp_ BK164) hb)
       replace HB := Aside0.mk (below_step (hb_ HB) hb)
       clear hb ho87
       obtain ⟨Ao88, co88, eo88⟩ := Kd.R_slice HO175.out
       subst eo88
       obtain ⟨ado88, fo88, _⟩ := Kd.at_string (Kd.R_reads' HO175.out).2.2 0 (by decide) (by rw [Ny173.out]; simp)
       cases fo88
       refine hK.out _ _ ⟨.slice (some ado88) y173.length co88, ado88, m12_, (by rw [ha.out]; exact putSel_upk 5 hbq_ rfl rfl rfl), (kp_ BK164), (hb_ HB), fun _ => (Kd.R_p HO175), fun _ => ⟨_, rfl⟩, fun h0_ => absurd ((hoff 12 (by kernel_rfl)).symm.trans h0_) (by decide)⟩
      refine steps_cons ?_ ?_
      ·rintro b a w' ⟨v174, adz_v174, m12_, ha, Q_BK164, Q_HB, Q_HO175, Q_HA_HO175, Q_X12_⟩ hbq_ hon hoff
       refine ⟨_, rfl, fun K hK => ?_⟩
       have e74 : a.tmps[74]? = some (.pointer (some ⟨gb164, 0, none⟩)) := by rw [ha]; exact (putSel_off rfl).trans rfl
       replace ha := Aside0.mk ha
       have BK164 := Aside0.mk Q_BK164
       have HB := Aside0.mk Q_HB
       have hc0_ : w'.cell? ⟨gb164, 0, none⟩ = some (.int .i64 ((rd_T33 l0 a2).f0)) := (blk_cell BK164.out 0).trans rfl
       have hc1_ : w'.cell? ⟨gb164, 1, none⟩ = some (.int .i64 ((rd_T33 l0 a2).f1)) := (blk_cell BK164.out 1).trans rfl
       refine value_ (w1 := w') (v := .int .i64 ((rd_T33 l0 a2).f0)) (by rfl) rfl ?_ ?_
       ·go_simp
        (try simp only [i64_w])
        try rfl
       refine hK.out _ _ ⟨v174, adz_v174, m12_, (by rw [ha.out]; exact putSel_upk 6 hbq_ rfl rfl rfl), Q_BK164, Q_HB, Q_HO175, Q_HA_HO175, fun h0_ => absurd ((hoff 12 (by kernel_rfl)).symm.trans h0_) (by decide)⟩
      refine steps_cons ?_ ?_
      ·rintro b a w' ⟨v174, adz_v174, m12_, ha, Q_BK164, Q_HB, Q_HO175, Q_HA_HO175, Q_X12_⟩ hbq_ hon hoff
       refine ⟨_, rfl, fun K hK => ?_⟩
       have e75 : a.tmps[75]? = some (.int .i64 ((rd_T33 l0 a2).f0)) := by rw [ha]; exact putSel_on (e := (10, 75, .int .i64 ((rd_T33 l0 a2).f0))) 6 rfl rfl (hon 10 (by kernel_rfl)) rfl
       replace ha := Aside0.mk ha
       have BK164 := Aside0.mk Q_BK164
       have HB := Aside0.mk Q_HB
       refine value_ (w1 := w') (v := .int .i64 ji60) (by rfl) rfl ?_ ?_
       ·go_simp
        (try simp only [i64_w])
        try rfl
       refine hK.out _ _ ⟨v174, adz_v174, m12_, (by rw [ha.out]; exact putSel_upk 7 hbq_ rfl rfl rfl), Q_BK164, Q_HB, Q_HO175, Q_HA_HO175, fun h0_ => absurd ((hoff 12 (by kernel_rfl)).symm.trans h0_) (by decide)⟩
      refine steps_cons ?_ ?_
      ·rintro b a w' ⟨v174, adz_v174, m12_, ha, Q_BK164, Q_HB, Q_HO175, Q_HA_HO175, Q_X12_⟩ hbq_ hon hoff
       refine ⟨_, rfl, fun K hK => ?_⟩
       have e73 : a.tmps[73]? = some (v174) := by rw [ha]; exact putSel_on (e := (8, 73, v174)) 5 rfl rfl (hon 8 (by kernel_rfl)) rfl
       have e76 : a.tmps[76]? = some (.int .i64 ji60) := by rw [ha]; exact putSel_on (e := (11, 76, .int .i64 ji60)) 7 rfl rfl (hon 11 (by kernel_rfl)) rfl
       replace ha := Aside0.mk ha
       have BK164 := Aside0.mk Q_BK164
       have HB := Aside0.mk Q_HB
       have HO175 := Aside0.mk (Q_HO175 (hon 8 (by kernel_rfl)))
       have HA_HO175 := Aside0.mk (Q_HA_HO175 (hon 8 (by kernel_rfl)))
       obtain ⟨c_, hv_⟩ := HA_HO175.out
       rw [hv_] at e73
       refine value_ (w1 := w') (v := .pointer (some (adz_v174.add ((ji60)).toNat))) (by rfl) rfl ?_ ?_
       ·go_simp
        (try simp only [i64_w])
        try rfl
       refine hK.out _ _ ⟨v174, adz_v174, (.pointer (some (adz_v174.add ((ji60)).toNat))), (by rw [ha.out]; exact putSel_upk 8 hbq_ rfl rfl rfl), Q_BK164, Q_HB, Q_HO175, Q_HA_HO175, fun _ => rfl⟩
      refine steps_cons ?_ ?_
      ·rintro b a w' ⟨v174, adz_v174, m12_, ha, Q_BK164, Q_HB, Q_HO175, Q_HA_HO175, Q_X12_⟩ hbq_ hon hoff
       refine ⟨_, rfl, fun K hK => ?_⟩
       have e77 : a.tmps[77]? = some (m12_) := by rw [ha]; exact putSel_on (e := (12, 77, m12_)) 8 rfl rfl (hon 12 (by kernel_rfl)) rfl
       rw [Q_X12_ (hon 12 (by kernel_rfl))] at e77
       replace ha := Aside0.mk ha
       have BK164 := Aside0.mk Q_BK164
       have HB := Aside0.mk Q_HB
       have HO175 := Aside0.mk (Q_HO175 (hon 8 (by kernel_rfl)))
       have HA_HO175 := Aside0.mk (Q_HA_HO175 (hon 8 (by kernel_rfl)))
       obtain ⟨c_, hv_⟩ := HA_HO175.out
       have hF_ := HO175.out
       rw [hv_] at hF_
       obtain ⟨ad_, ea_, hx_⟩ := Kd.at_string (Kd.R_reads' hF_).2.2 (ji60) (of_eq_true pi176) (of_eq_true qi176)
       cases ea_
       refine value_ (w1 := w') (v := .string (rdOf ByteArray.empty y173 (ji60))) (by rfl) rfl ?_ ?_
       ·go_simp
        (try simp only [i64_w])
        try rfl
       refine hK.out _ _ ⟨v174, adz_v174, m12_, (by rw [ha.out]; exact putSel_upk 9 hbq_ rfl rfl rfl), Q_BK164, Q_HB, Q_HO175, Q_HA_HO175, Q_X12_⟩
      refine steps_cons ?_ ?_
      ·rintro b a w' ⟨v174, adz_v174, m12_, ha, Q_BK164, Q_HB, Q_HO175, Q_HA_HO175, Q_X12_⟩ hbq_ hon hoff
       refine ⟨_, rfl, fun K hK => ?_⟩
       have e72 : a.tmps[72]? = some (.string (((⟨#[105, 102, 32]⟩ : ByteArray) ++ t172) ++ (⟨#[32]⟩ : ByteArray))) := by rw [ha]; exact putSel_on (e := (7, 72, .string (((⟨#[105, 102, 32]⟩ : ByteArray) ++ t172) ++ (⟨#[32]⟩ : ByteArray)))) 4 rfl rfl (hon 7 (by kernel_rfl)) rfl
       have e78 : a.tmps[78]? = some (.string (rdOf ByteArray.empty y173 (ji60))) := by rw [ha]; exact putSel_on (e := (13, 78, .string (rdOf ByteArray.empty y173 (ji60)))) 9 rfl rfl (hon 13 (by kernel_rfl)) rfl
       replace ha := Aside0.mk ha
       have BK164 := Aside0.mk Q_BK164
       have HB := Aside0.mk Q_HB
       have HO175 := Aside0.mk (Q_HO175 (hon 8 (by kernel_rfl)))
       have HA_HO175 := Aside0.mk (Q_HA_HO175 (hon 8 (by kernel_rfl)))
       refine value_ (w1 := w') (v := .string ((((⟨#[105, 102, 32]⟩ : ByteArray) ++ t172) ++ (⟨#[32]⟩ : ByteArray)) ++ (rdOf ByteArray.empty y173 (ji60)))) (by rfl) rfl ?_ ?_
       ·go_simp
        (try simp only [i64_w])
        try rfl
       refine hK.out _ _ ⟨v174, adz_v174, m12_, (by rw [ha.out]; exact putSel_upk 10 hbq_ rfl rfl rfl), Q_BK164, Q_HB, Q_HO175, Q_HA_HO175, Q_X12_⟩
      refine steps_cons ?_ ?_
      ·rintro b a w' ⟨v174, adz_v174, m12_, ha, Q_BK164, Q_HB, Q_HO175, Q_HA_HO175, Q_X12_⟩ hbq_ hon hoff
       refine ⟨_, rfl, fun K hK => ?_⟩
       have e79 : a.tmps[79]? = some (.string ((((⟨#[105, 102, 32]⟩ : ByteArray) ++ t172) ++ (⟨#[32]⟩ : ByteArray)) ++ (rdOf ByteArray.empty y173 (ji60)))) := by rw [ha]; exact putSel_on (e := (14, 79, .string ((((⟨#[105, 102, 32]⟩ : ByteArray) ++ t172) ++ (⟨#[32]⟩ : ByteArray)) ++ (rdOf ByteArray.empty y173 (ji60))))) 10 rfl rfl (hon 14 (by kernel_rfl)) rfl
       replace ha := Aside0.mk ha
       have BK164 := Aside0.mk Q_BK164
       have HB := Aside0.mk Q_HB
       have HO175 := Aside0.mk (Q_HO175 (hon 8 (by kernel_rfl)))
       have HA_HO175 := Aside0.mk (Q_HA_HO175 (hon 8 (by kernel_rfl)))
       refine value_ (w1 := w') (v := .string (((((⟨#[105, 102, 32]⟩ : ByteArray) ++ t172) ++ (⟨#[32]⟩ : ByteArray)) ++ (rdOf ByteArray.empty y173 (ji60))) ++ (⟨#[32]⟩ : ByteArray))) (by rfl) rfl ?_ ?_
       ·go_simp
        (try simp only [i64_w])
        try rfl
       refine hK.out _ _ ⟨v174, adz_v174, m12_, (by rw [ha.out]; exact putSel_upk 11 hbq_ rfl rfl rfl), Q_BK164, Q_HB, Q_HO175, Q_HA_HO175, Q_X12_⟩
      refine steps_cons ?_ ?_
      ·rintro b a w' ⟨v174, adz_v174, m12_, ha, Q_BK164, Q_HB, Q_HO175, Q_HA_HO175, Q_X12_⟩ hbq_ hon hoff
       refine ⟨_, rfl, fun K hK => ?_⟩
       have e83 : a.tmps[83]? = some (.slice (some ad171) (rd_L3 l1 a2).length c163_0) := by rw [ha]; exact (putSel_off rfl).trans rfl
       replace ha := Aside0.mk ha
       have BK164 := Aside0.mk Q_BK164
       have HB := Aside0.mk Q_HB
       have hs1_ : w'.cell? ⟨ad171.block, ad171.off + 1, none⟩ = some (.int .i64 (rd (rd_L3 l1 a2) 1)) := ((HB.out.cell (World.block_lt_of_cell? w _ hw177_0)).trans hw177_0)
       refine value_ (w1 := w') (v := .pointer (some (ad171.add 1))) (by rfl) rfl ?_ ?_
       ·go_simp
        (try simp only [i64_w])
        try rfl
       refine hK.out _ _ ⟨v174, adz_v174, m12_, (by rw [ha.out]; exact putSel_upk 12 hbq_ rfl rfl rfl), Q_BK164, Q_HB, Q_HO175, Q_HA_HO175, Q_X12_⟩
      refine steps_cons ?_ ?_
      ·rintro b a w' ⟨v174, adz_v174, m12_, ha, Q_BK164, Q_HB, Q_HO175, Q_HA_HO175, Q_X12_⟩ hbq_ hon hoff
       refine ⟨_, rfl, fun K hK => ?_⟩
       have e84 : a.tmps[84]? = some (.pointer (some (ad171.add 1))) := by rw [ha]; exact putSel_on (e := (19, 84, .pointer (some (ad171.add 1)))) 12 rfl rfl (hon 19 (by kernel_rfl)) rfl
       replace ha := Aside0.mk ha
       have BK164 := Aside0.mk Q_BK164
       have HB := Aside0.mk Q_HB
       have hs1_ : w'.cell? ⟨ad171.block, ad171.off + 1, none⟩ = some (.int .i64 (rd (rd_L3 l1 a2) 1)) := ((HB.out.cell (World.block_lt_of_cell? w _ hw177_0)).trans hw177_0)
       refine value_ (w1 := w') (v := .int .i64 (rd (rd_L3 l1 a2) 1)) (by rfl) rfl ?_ ?_
       ·go_simp
        (try simp only [i64_w])
        try rfl
       refine hK.out _ _ ⟨v174, adz_v174, m12_, (by rw [ha.out]; exact putSel_upk 13 hbq_ rfl rfl rfl), Q_BK164, Q_HB, Q_HO175, Q_HA_HO175, Q_X12_⟩
      refine steps_cons ?_ ?_
      ·rintro b a w' ⟨v174, adz_v174, m12_, ha, Q_BK164, Q_HB, Q_HO175, Q_HA_HO175, Q_X12_⟩ hbq_ hon hoff
       refine ⟨_, rfl, fun K hK => ?_⟩
       have e81 : a.tmps[81]? = some (.slice (some ad162) l0.length c0) := by rw [ha]; exact (putSel_off rfl).trans rfl
       have e82 : a.tmps[82]? = some (.slice (some ad163) l1.length c1) := by rw [ha]; exact (putSel_off rfl).trans rfl
       have e85 : a.tmps[85]? = some (.int .i64 (rd (rd_L3 l1 a2) 1)) := by rw [ha]; exact putSel_on (e := (20, 85, .int .i64 (rd (rd_L3 l1 a2) 1))) 13 rfl rfl (hon 20 (by kernel_rfl)) rfl
       replace ha := Aside0.mk ha
       have BK164 := Aside0.mk Q_BK164
       have HB := Aside0.mk Q_HB
       refine goes_ Tryd.func18 (by kernel_rfl) rfl #[.slice (some ad162) l0.length c0, .slice (some ad163) l1.length c1, .int .i64 (rd (rd_L3 l1 a2) 1), .int .i64 1] (by rfl) rfl rfl (by first | (simp only [List.map_toArray, List.map_cons, List.map_nil, Act.eval, Array.getD_eq_getD_getElem?, Option.getD_some, e81, e82, e85]; done) | (simp only [List.map_toArray, List.map_cons, List.map_nil, Act.eval, Array.getD_eq_getD_getElem?, Option.getD_some, e81, e82, e85]; rfl)) ?_
       with_reducible refine (ih k (by omega) _ _ l0 _ _ l1 (rd (rd_L3 l1 a2) 1) 1 t178 _ ?side1 ?side2 ?side3 ?side4 A66.out).mono ?_
       (case side1 => exact Kd.C_w HR0 HB)
       (case side2 => exact HC0.out)
       (case side3 => exact Kd.C_w HR1 HB)
       (case side4 => exact HC1.out)
       rintro e w88 ⟨rfl, hb⟩
       refine ⟨_, rfl, ?_⟩
       have n0_ := Aside0.mk (blk_below (kp_ BK164) hb)
       have n1_ := Aside0.mk (below_step (hb_ HB) hb)
       have z_HO175 := fun (h0_ : b 8 = true) => (show Kd.R Kd.string 9 w88 w.heap.size (fun _ => True) v174 y173 from by first | exact (Kd.R_below (Kd.R_pp ((Q_HO175 h0_))) hb) | exact Kd.R_mono (Kd.R_below (Kd.R_pp ((Q_HO175 h0_))) hb) (fun _ h_ => by first | trivial | exact h_ | exact h_.1))
       clear BK164
       clear HB
       have BK164 := n0_
       have HB := n1_
       clear n0_ n1_
       refine hK.out _ _ ⟨v174, adz_v174, m12_, (by rw [ha.out]; exact putSel_upk 14 hbq_ rfl rfl rfl), (kp_ BK164), (hb_ HB), z_HO175, Q_HA_HO175, Q_X12_⟩
      refine steps_cons ?_ ?_
      ·rintro b a w' ⟨v174, adz_v174, m12_, ha, Q_BK164, Q_HB, Q_HO175, Q_HA_HO175, Q_X12_⟩ hbq_ hon hoff
       refine ⟨_, rfl, fun K hK => ?_⟩
       have e80 : a.tmps[80]? = some (.string (((((⟨#[105, 102, 32]⟩ : ByteArray) ++ t172) ++ (⟨#[32]⟩ : ByteArray)) ++ (rdOf ByteArray.empty y173 (ji60))) ++ (⟨#[32]⟩ : ByteArray))) := by rw [ha]; exact putSel_on (e := (15, 80, .string (((((⟨#[105, 102, 32]⟩ : ByteArray) ++ t172) ++ (⟨#[32]⟩ : ByteArray)) ++ (rdOf ByteArray.empty y173 (ji60))) ++ (⟨#[32]⟩ : ByteArray)))) 11 rfl rfl (hon 15 (by kernel_rfl)) rfl
       have e86 : a.tmps[86]? = some (.string t178) := by rw [ha]; exact putSel_on (e := (21, 86, .string t178)) 14 rfl rfl (hon 21 (by kernel_rfl)) rfl
       replace ha := Aside0.mk ha
       have BK164 := Aside0.mk Q_BK164
       have HB := Aside0.mk Q_HB
       have HO175 := Aside0.mk (Q_HO175 (hon 8 (by kernel_rfl)))
       have HA_HO175 := Aside0.mk (Q_HA_HO175 (hon 8 (by kernel_rfl)))
       refine value_ (w1 := w') (v := .string ((((((⟨#[105, 102, 32]⟩ : ByteArray) ++ t172) ++ (⟨#[32]⟩ : ByteArray)) ++ (rdOf ByteArray.empty y173 (ji60))) ++ (⟨#[32]⟩ : ByteArray)) ++ t178)) (by rfl) rfl ?_ ?_
       ·go_simp
        (try simp only [i64_w])
        try rfl
       refine hK.out _ _ ⟨v174, adz_v174, m12_, (by rw [ha.out]; exact putSel_upk 15 hbq_ rfl rfl rfl), Q_BK164, Q_HB, Q_HO175, Q_HA_HO175, Q_X12_⟩
      refine steps_cons ?_ ?_
      ·rintro b a w' ⟨v174, adz_v174, m12_, ha, Q_BK164, Q_HB, Q_HO175, Q_HA_HO175, Q_X12_⟩ hbq_ hon hoff
       refine ⟨_, rfl, fun K hK => ?_⟩
       have e87 : a.tmps[87]? = some (.string ((((((⟨#[105, 102, 32]⟩ : ByteArray) ++ t172) ++ (⟨#[32]⟩ : ByteArray)) ++ (rdOf ByteArray.empty y173 (ji60))) ++ (⟨#[32]⟩ : ByteArray)) ++ t178)) := by rw [ha]; exact putSel_on (e := (22, 87, .string ((((((⟨#[105, 102, 32]⟩ : ByteArray) ++ t172) ++ (⟨#[32]⟩ : ByteArray)) ++ (rdOf ByteArray.empty y173 (ji60))) ++ (⟨#[32]⟩ : ByteArray)) ++ t178))) 15 rfl rfl (hon 22 (by kernel_rfl)) rfl
       replace ha := Aside0.mk ha
       have BK164 := Aside0.mk Q_BK164
       have HB := Aside0.mk Q_HB
       have HO175 := Aside0.mk (Q_HO175 (hon 8 (by kernel_rfl)))
       have HA_HO175 := Aside0.mk (Q_HA_HO175 (hon 8 (by kernel_rfl)))
       refine value_ (w1 := w') (v := .string (((((((⟨#[105, 102, 32]⟩ : ByteArray) ++ t172) ++ (⟨#[32]⟩ : ByteArray)) ++ (rdOf ByteArray.empty y173 (ji60))) ++ (⟨#[32]⟩ : ByteArray)) ++ t178) ++ (⟨#[32, 116, 104, 101, 110, 32]⟩ : ByteArray))) (by rfl) rfl ?_ ?_
       ·go_simp
        (try simp only [i64_w])
        try rfl
       refine hK.out _ _ ⟨v174, adz_v174, m12_, (by rw [ha.out]; exact putSel_upk 16 hbq_ rfl rfl rfl), Q_BK164, Q_HB, Q_HO175, Q_HA_HO175, Q_X12_⟩
      refine steps_cons ?_ ?_
      ·rintro b a w' ⟨v174, adz_v174, m12_, ha, Q_BK164, Q_HB, Q_HO175, Q_HA_HO175, Q_X12_⟩ hbq_ hon hoff
       refine ⟨_, rfl, fun K hK => ?_⟩
       have e91 : a.tmps[91]? = some (.slice (some ad171) (rd_L3 l1 a2).length c163_0) := by rw [ha]; exact (putSel_off rfl).trans rfl
       replace ha := Aside0.mk ha
       have BK164 := Aside0.mk Q_BK164
       have HB := Aside0.mk Q_HB
       have hs2_ : w'.cell? ⟨ad171.block, ad171.off + 2, none⟩ = some (.int .i64 (rd (rd_L3 l1 a2) 2)) := ((HB.out.cell (World.block_lt_of_cell? w _ hw179_0)).trans hw179_0)
       refine value_ (w1 := w') (v := .pointer (some (ad171.add 2))) (by rfl) rfl ?_ ?_
       ·go_simp
        (try simp only [i64_w])
        try rfl
       refine hK.out _ _ ⟨v174, adz_v174, m12_, (by rw [ha.out]; exact putSel_upk 17 hbq_ rfl rfl rfl), Q_BK164, Q_HB, Q_HO175, Q_HA_HO175, Q_X12_⟩
      refine steps_cons ?_ ?_
      ·rintro b a w' ⟨v174, adz_v174, m12_, ha, Q_BK164, Q_HB, Q_HO175, Q_HA_HO175, Q_X12_⟩ hbq_ hon hoff
       refine ⟨_, rfl, fun K hK => ?_⟩
       have e92 : a.tmps[92]? = some (.pointer (some (ad171.add 2))) := by rw [ha]; exact putSel_on (e := (27, 92, .pointer (some (ad171.add 2)))) 17 rfl rfl (hon 27 (by kernel_rfl)) rfl
       replace ha := Aside0.mk ha
       have BK164 := Aside0.mk Q_BK164
       have HB := Aside0.mk Q_HB
       have hs2_ : w'.cell? ⟨ad171.block, ad171.off + 2, none⟩ = some (.int .i64 (rd (rd_L3 l1 a2) 2)) := ((HB.out.cell (World.block_lt_of_cell? w _ hw179_0)).trans hw179_0)
       refine value_ (w1 := w') (v := .int .i64 (rd (rd_L3 l1 a2) 2)) (by rfl) rfl ?_ ?_
       ·go_simp
        (try simp only [i64_w])
        try rfl
       refine hK.out _ _ ⟨v174, adz_v174, m12_, (by rw [ha.out]; exact putSel_upk 18 hbq_ rfl rfl rfl), Q_BK164, Q_HB, Q_HO175, Q_HA_HO175, Q_X12_⟩
      refine steps_cons ?_ ?_
      ·rintro b a w' ⟨v174, adz_v174, m12_, ha, Q_BK164, Q_HB, Q_HO175, Q_HA_HO175, Q_X12_⟩ hbq_ hon hoff
       refine ⟨_, rfl, fun K hK => ?_⟩
       have e89 : a.tmps[89]? = some (.slice (some ad162) l0.length c0) := by rw [ha]; exact (putSel_off rfl).trans rfl
       have e90 : a.tmps[90]? = some (.slice (some ad163) l1.length c1) := by rw [ha]; exact (putSel_off rfl).trans rfl
       have e93 : a.tmps[93]? = some (.int .i64 (rd (rd_L3 l1 a2) 2)) := by rw [ha]; exact putSel_on (e := (28, 93, .int .i64 (rd (rd_L3 l1 a2) 2))) 18 rfl rfl (hon 28 (by kernel_rfl)) rfl
       replace ha := Aside0.mk ha
       have BK164 := Aside0.mk Q_BK164
       have HB := Aside0.mk Q_HB
       refine goes_ Tryd.func18 (by kernel_rfl) rfl #[.slice (some ad162) l0.length c0, .slice (some ad163) l1.length c1, .int .i64 (rd (rd_L3 l1 a2) 2), .int .i64 0] (by rfl) rfl rfl (by first | (simp only [List.map_toArray, List.map_cons, List.map_nil, Act.eval, Array.getD_eq_getD_getElem?, Option.getD_some, e89, e90, e93]; done) | (simp only [List.map_toArray, List.map_cons, List.map_nil, Act.eval, Array.getD_eq_getD_getElem?, Option.getD_some, e89, e90, e93]; rfl)) ?_
       with_reducible refine (ih k (by omega) _ _ l0 _ _ l1 (rd (rd_L3 l1 a2) 2) 0 t180 _ ?side1 ?side2 ?side3 ?side4 A70.out).mono ?_
       (case side1 => exact Kd.C_w HR0 HB)
       (case side2 => exact HC0.out)
       (case side3 => exact Kd.C_w HR1 HB)
       (case side4 => exact HC1.out)
       rintro e w89 ⟨rfl, hb⟩
       refine ⟨_, rfl, ?_⟩
       have n0_ := Aside0.mk (blk_below (kp_ BK164) hb)
       have n1_ := Aside0.mk (below_step (hb_ HB) hb)
       have z_HO175 := fun (h0_ : b 8 = true) => (show Kd.R Kd.string 9 w89 w.heap.size (fun _ => True) v174 y173 from by first | exact (Kd.R_below (Kd.R_pp ((Q_HO175 h0_))) hb) | exact Kd.R_mono (Kd.R_below (Kd.R_pp ((Q_HO175 h0_))) hb) (fun _ h_ => by first | trivial | exact h_ | exact h_.1))
       clear BK164
       clear HB
       have BK164 := n0_
       have HB := n1_
       clear n0_ n1_
       refine hK.out _ _ ⟨v174, adz_v174, m12_, (by rw [ha.out]; exact putSel_upk 19 hbq_ rfl rfl rfl), (kp_ BK164), (hb_ HB), z_HO175, Q_HA_HO175, Q_X12_⟩
      refine steps_cons ?_ ?_
      ·rintro b a w' ⟨v174, adz_v174, m12_, ha, Q_BK164, Q_HB, Q_HO175, Q_HA_HO175, Q_X12_⟩ hbq_ hon hoff
       refine ⟨_, rfl, fun K hK => ?_⟩
       have e88 : a.tmps[88]? = some (.string (((((((⟨#[105, 102, 32]⟩ : ByteArray) ++ t172) ++ (⟨#[32]⟩ : ByteArray)) ++ (rdOf ByteArray.empty y173 (ji60))) ++ (⟨#[32]⟩ : ByteArray)) ++ t178) ++ (⟨#[32, 116, 104, 101, 110, 32]⟩ : ByteArray))) := by rw [ha]; exact putSel_on (e := (23, 88, .string (((((((⟨#[105, 102, 32]⟩ : ByteArray) ++ t172) ++ (⟨#[32]⟩ : ByteArray)) ++ (rdOf ByteArray.empty y173 (ji60))) ++ (⟨#[32]⟩ : ByteArray)) ++ t178) ++ (⟨#[32, 116, 104, 101, 110, 32]⟩ : ByteArray)))) 16 rfl rfl (hon 23 (by kernel_rfl)) rfl
       have e94 : a.tmps[94]? = some (.string t180) := by rw [ha]; exact putSel_on (e := (29, 94, .string t180)) 19 rfl rfl (hon 29 (by kernel_rfl)) rfl
       replace ha := Aside0.mk ha
       have BK164 := Aside0.mk Q_BK164
       have HB := Aside0.mk Q_HB
       have HO175 := Aside0.mk (Q_HO175 (hon 8 (by kernel_rfl)))
       have HA_HO175 := Aside0.mk (Q_HA_HO175 (hon 8 (by kernel_rfl)))
       refine value_ (w1 := w') (v := .string ((((((((⟨#[105, 102, 32]⟩ : ByteArray) ++ t172) ++ (⟨#[32]⟩ : ByteArray)) ++ (rdOf ByteArray.empty y173 (ji60))) ++ (⟨#[32]⟩ : ByteArray)) ++ t178) ++ (⟨#[32, 116, 104, 101, 110, 32]⟩ : ByteArray)) ++ t180)) (by rfl) rfl ?_ ?_
       ·go_simp
        (try simp only [i64_w])
        try rfl
       refine hK.out _ _ ⟨v174, adz_v174, m12_, (by rw [ha.out]; exact putSel_upk 20 hbq_ rfl rfl rfl), Q_BK164, Q_HB, Q_HO175, Q_HA_HO175, Q_X12_⟩
      refine steps_cons ?_ ?_
      ·rintro b a w' ⟨v174, adz_v174, m12_, ha, Q_BK164, Q_HB, Q_HO175, Q_HA_HO175, Q_X12_⟩ hbq_ hon hoff
       refine ⟨_, rfl, fun K hK => ?_⟩
       have e95 : a.tmps[95]? = some (.string ((((((((⟨#[105, 102, 32]⟩ : ByteArray) ++ t172) ++ (⟨#[32]⟩ : ByteArray)) ++ (rdOf ByteArray.empty y173 (ji60))) ++ (⟨#[32]⟩ : ByteArray)) ++ t178) ++ (⟨#[32, 116, 104, 101, 110, 32]⟩ : ByteArray)) ++ t180)) := by rw [ha]; exact putSel_on (e := (30, 95, .string ((((((((⟨#[105, 102, 32]⟩ : ByteArray) ++ t172) ++ (⟨#[32]⟩ : ByteArray)) ++ (rdOf ByteArray.empty y173 (ji60))) ++ (⟨#[32]⟩ : ByteArray)) ++ t178) ++ (⟨#[32, 116, 104, 101, 110, 32]⟩ : ByteArray)) ++ t180))) 20 rfl rfl (hon 30 (by kernel_rfl)) rfl
       replace ha := Aside0.mk ha
       have BK164 := Aside0.mk Q_BK164
       have HB := Aside0.mk Q_HB
       have HO175 := Aside0.mk (Q_HO175 (hon 8 (by kernel_rfl)))
       have HA_HO175 := Aside0.mk (Q_HA_HO175 (hon 8 (by kernel_rfl)))
       refine value_ (w1 := w') (v := .string (((((((((⟨#[105, 102, 32]⟩ : ByteArray) ++ t172) ++ (⟨#[32]⟩ : ByteArray)) ++ (rdOf ByteArray.empty y173 (ji60))) ++ (⟨#[32]⟩ : ByteArray)) ++ t178) ++ (⟨#[32, 116, 104, 101, 110, 32]⟩ : ByteArray)) ++ t180) ++ (⟨#[32, 101, 108, 115, 101, 32]⟩ : ByteArray))) (by rfl) rfl ?_ ?_
       ·go_simp
        (try simp only [i64_w])
        try rfl
       refine hK.out _ _ ⟨v174, adz_v174, m12_, (by rw [ha.out]; exact putSel_upk 21 hbq_ rfl rfl rfl), Q_BK164, Q_HB, Q_HO175, Q_HA_HO175, Q_X12_⟩
      refine steps_cons ?_ ?_
      ·rintro b a w' ⟨v174, adz_v174, m12_, ha, Q_BK164, Q_HB, Q_HO175, Q_HA_HO175, Q_X12_⟩ hbq_ hon hoff
       refine ⟨_, rfl, fun K hK => ?_⟩
       have e99 : a.tmps[99]? = some (.slice (some ad171) (rd_L3 l1 a2).length c163_0) := by rw [ha]; exact (putSel_off rfl).trans rfl
       replace ha := Aside0.mk ha
       have BK164 := Aside0.mk Q_BK164
       have HB := Aside0.mk Q_HB
       have hs3_ : w'.cell? ⟨ad171.block, ad171.off + 3, none⟩ = some (.int .i64 (rd (rd_L3 l1 a2) 3)) := ((HB.out.cell (World.block_lt_of_cell? w _ hw181_0)).trans hw181_0)
       refine value_ (w1 := w') (v := .pointer (some (ad171.add 3))) (by rfl) rfl ?_ ?_
       ·go_simp
        (try simp only [i64_w])
        try rfl
       refine hK.out _ _ ⟨v174, adz_v174, m12_, (by rw [ha.out]; exact putSel_upk 22 hbq_ rfl rfl rfl), Q_BK164, Q_HB, Q_HO175, Q_HA_HO175, Q_X12_⟩
      refine steps_cons ?_ ?_
      ·rintro b a w' ⟨v174, adz_v174, m12_, ha, Q_BK164, Q_HB, Q_HO175, Q_HA_HO175, Q_X12_⟩ hbq_ hon hoff
       refine ⟨_, rfl, fun K hK => ?_⟩
       have e100 : a.tmps[100]? = some (.pointer (some (ad171.add 3))) := by rw [ha]; exact putSel_on (e := (35, 100, .pointer (some (ad171.add 3)))) 22 rfl rfl (hon 35 (by kernel_rfl)) rfl
       replace ha := Aside0.mk ha
       have BK164 := Aside0.mk Q_BK164
       have HB := Aside0.mk Q_HB
       have hs3_ : w'.cell? ⟨ad171.block, ad171.off + 3, none⟩ = some (.int .i64 (rd (rd_L3 l1 a2) 3)) := ((HB.out.cell (World.block_lt_of_cell? w _ hw181_0)).trans hw181_0)
       refine value_ (w1 := w') (v := .int .i64 (rd (rd_L3 l1 a2) 3)) (by rfl) rfl ?_ ?_
       ·go_simp
        (try simp only [i64_w])
        try rfl
       refine hK.out _ _ ⟨v174, adz_v174, m12_, (by rw [ha.out]; exact putSel_upk 23 hbq_ rfl rfl rfl), Q_BK164, Q_HB, Q_HO175, Q_HA_HO175, Q_X12_⟩
      refine steps_cons ?_ ?_
      ·rintro b a w' ⟨v174, adz_v174, m12_, ha, Q_BK164, Q_HB, Q_HO175, Q_HA_HO175, Q_X12_⟩ hbq_ hon hoff
       refine ⟨_, rfl, fun K hK => ?_⟩
       have e97 : a.tmps[97]? = some (.slice (some ad162) l0.length c0) := by rw [ha]; exact (putSel_off rfl).trans rfl
       have e98 : a.tmps[98]? = some (.slice (some ad163) l1.length c1) := by rw [ha]; exact (putSel_off rfl).trans rfl
       have e101 : a.tmps[101]? = some (.int .i64 (rd (rd_L3 l1 a2) 3)) := by rw [ha]; exact putSel_on (e := (36, 101, .int .i64 (rd (rd_L3 l1 a2) 3))) 23 rfl rfl (hon 36 (by kernel_rfl)) rfl
       replace ha := Aside0.mk ha
       have BK164 := Aside0.mk Q_BK164
       have HB := Aside0.mk Q_HB
       refine goes_ Tryd.func18 (by kernel_rfl) rfl #[.slice (some ad162) l0.length c0, .slice (some ad163) l1.length c1, .int .i64 (rd (rd_L3 l1 a2) 3), .int .i64 0] (by rfl) rfl rfl (by first | (simp only [List.map_toArray, List.map_cons, List.map_nil, Act.eval, Array.getD_eq_getD_getElem?, Option.getD_some, e97, e98, e101]; done) | (simp only [List.map_toArray, List.map_cons, List.map_nil, Act.eval, Array.getD_eq_getD_getElem?, Option.getD_some, e97, e98, e101]; rfl)) ?_
       with_reducible refine (ih k (by omega) _ _ l0 _ _ l1 (rd (rd_L3 l1 a2) 3) 0 t182 _ ?side1 ?side2 ?side3 ?side4 A74.out).mono ?_
       (case side1 => exact Kd.C_w HR0 HB)
       (case side2 => exact HC0.out)
       (case side3 => exact Kd.C_w HR1 HB)
       (case side4 => exact HC1.out)
       rintro e w90 ⟨rfl, hb⟩
       refine ⟨_, rfl, ?_⟩
       have n0_ := Aside0.mk (blk_below (kp_ BK164) hb)
       have n1_ := Aside0.mk (below_step (hb_ HB) hb)
       have z_HO175 := fun (h0_ : b 8 = true) => (show Kd.R Kd.string 9 w90 w.heap.size (fun _ => True) v174 y173 from by first | exact (Kd.R_below (Kd.R_pp ((Q_HO175 h0_))) hb) | exact Kd.R_mono (Kd.R_below (Kd.R_pp ((Q_HO175 h0_))) hb) (fun _ h_ => by first | trivial | exact h_ | exact h_.1))
       clear BK164
       clear HB
       have BK164 := n0_
       have HB := n1_
       clear n0_ n1_
       refine hK.out _ _ ⟨v174, adz_v174, m12_, (by rw [ha.out]; exact putSel_upk 24 hbq_ rfl rfl rfl), (kp_ BK164), (hb_ HB), z_HO175, Q_HA_HO175, Q_X12_⟩
      refine steps_cons ?_ ?_
      ·rintro b a w' ⟨v174, adz_v174, m12_, ha, Q_BK164, Q_HB, Q_HO175, Q_HA_HO175, Q_X12_⟩ hbq_ hon hoff
       refine ⟨_, rfl, fun K hK => ?_⟩
       have e96 : a.tmps[96]? = some (.string (((((((((⟨#[105, 102, 32]⟩ : ByteArray) ++ t172) ++ (⟨#[32]⟩ : ByteArray)) ++ (rdOf ByteArray.empty y173 (ji60))) ++ (⟨#[32]⟩ : ByteArray)) ++ t178) ++ (⟨#[32, 116, 104, 101, 110, 32]⟩ : ByteArray)) ++ t180) ++ (⟨#[32, 101, 108, 115, 101, 32]⟩ : ByteArray))) := by rw [ha]; exact putSel_on (e := (31, 96, .string (((((((((⟨#[105, 102, 32]⟩ : ByteArray) ++ t172) ++ (⟨#[32]⟩ : ByteArray)) ++ (rdOf ByteArray.empty y173 (ji60))) ++ (⟨#[32]⟩ : ByteArray)) ++ t178) ++ (⟨#[32, 116, 104, 101, 110, 32]⟩ : ByteArray)) ++ t180) ++ (⟨#[32, 101, 108, 115, 101, 32]⟩ : ByteArray)))) 21 rfl rfl (hon 31 (by kernel_rfl)) rfl
       have e102 : a.tmps[102]? = some (.string t182) := by rw [ha]; exact putSel_on (e := (37, 102, .string t182)) 24 rfl rfl (hon 37 (by kernel_rfl)) rfl
       replace ha := Aside0.mk ha
       have BK164 := Aside0.mk Q_BK164
       have HB := Aside0.mk Q_HB
       have HO175 := Aside0.mk (Q_HO175 (hon 8 (by kernel_rfl)))
       have HA_HO175 := Aside0.mk (Q_HA_HO175 (hon 8 (by kernel_rfl)))
       refine value_ (w1 := w') (v := .string ((((((((((⟨#[105, 102, 32]⟩ : ByteArray) ++ t172) ++ (⟨#[32]⟩ : ByteArray)) ++ (rdOf ByteArray.empty y173 (ji60))) ++ (⟨#[32]⟩ : ByteArray)) ++ t178) ++ (⟨#[32, 116, 104, 101, 110, 32]⟩ : ByteArray)) ++ t180) ++ (⟨#[32, 101, 108, 115, 101, 32]⟩ : ByteArray)) ++ t182)) (by rfl) rfl ?_ ?_
       ·go_simp
        (try simp only [i64_w])
        try rfl
       refine hK.out _ _ ⟨v174, adz_v174, m12_, (by rw [ha.out]; exact putSel_upk 25 hbq_ rfl rfl rfl), Q_BK164, Q_HB, Q_HO175, Q_HA_HO175, Q_X12_⟩
      refine steps_cons ?_ ?_
      ·rintro b a w' ⟨v174, adz_v174, m12_, ha, Q_BK164, Q_HB, Q_HO175, Q_HA_HO175, Q_X12_⟩ hbq_ hon hoff
       refine ⟨_, rfl, fun K hK => ?_⟩
       have e103 : a.tmps[103]? = some (.string ((((((((((⟨#[105, 102, 32]⟩ : ByteArray) ++ t172) ++ (⟨#[32]⟩ : ByteArray)) ++ (rdOf ByteArray.empty y173 (ji60))) ++ (⟨#[32]⟩ : ByteArray)) ++ t178) ++ (⟨#[32, 116, 104, 101, 110, 32]⟩ : ByteArray)) ++ t180) ++ (⟨#[32, 101, 108, 115, 101, 32]⟩ : ByteArray)) ++ t182)) := by rw [ha]; exact putSel_on (e := (38, 103, .string ((((((((((⟨#[105, 102, 32]⟩ : ByteArray) ++ t172) ++ (⟨#[32]⟩ : ByteArray)) ++ (rdOf ByteArray.empty y173 (ji60))) ++ (⟨#[32]⟩ : ByteArray)) ++ t178) ++ (⟨#[32, 116, 104, 101, 110, 32]⟩ : ByteArray)) ++ t180) ++ (⟨#[32, 101, 108, 115, 101, 32]⟩ : ByteArray)) ++ t182))) 25 rfl rfl (hon 38 (by kernel_rfl)) rfl
       replace ha := Aside0.mk ha
       have BK164 := Aside0.mk Q_BK164
       have HB := Aside0.mk Q_HB
       have HO175 := Aside0.mk (Q_HO175 (hon 8 (by kernel_rfl)))
       have HA_HO175 := Aside0.mk (Q_HA_HO175 (hon 8 (by kernel_rfl)))
       refine value_ (w1 := w') (v := .string ((((((((((⟨#[105, 102, 32]⟩ : ByteArray) ++ t172) ++ (⟨#[32]⟩ : ByteArray)) ++ (rdOf ByteArray.empty y173 (ji60))) ++ (⟨#[32]⟩ : ByteArray)) ++ t178) ++ (⟨#[32, 116, 104, 101, 110, 32]⟩ : ByteArray)) ++ t180) ++ (⟨#[32, 101, 108, 115, 101, 32]⟩ : ByteArray)) ++ t182)) (by rfl) rfl ?_ ?_
       ·go_simp
        (try simp only [i64_w])
        try rfl
       refine hK.out _ _ ⟨v174, adz_v174, m12_, (by rw [ha.out]; exact putSel_upk 26 hbq_ rfl rfl rfl), Q_BK164, Q_HB, Q_HO175, Q_HA_HO175, Q_X12_⟩
      exact steps_nil
      )
      exact p8_
     rintro b a w93 hall ⟨v174, adz_v174, m12_, ha, Q_BK164, Q_HB, Q_HO175, Q_HA_HO175, Q_X12_⟩
     clear BK164 HB
     have hb3_ := hall 3 (by kernel_rfl)
     have hb4_ := hall 4 (by kernel_rfl)
     have hb5_ := hall 5 (by kernel_rfl)
     have hb6_ := hall 6 (by kernel_rfl)
     have hb7_ := hall 7 (by kernel_rfl)
     have hb8_ := hall 8 (by kernel_rfl)
     have hb10_ := hall 10 (by kernel_rfl)
     have hb11_ := hall 11 (by kernel_rfl)
     have hb12_ := hall 12 (by kernel_rfl)
     have hb13_ := hall 13 (by kernel_rfl)
     have hb14_ := hall 14 (by kernel_rfl)
     have hb15_ := hall 15 (by kernel_rfl)
     have hb19_ := hall 19 (by kernel_rfl)
     have hb20_ := hall 20 (by kernel_rfl)
     have hb21_ := hall 21 (by kernel_rfl)
     have hb22_ := hall 22 (by kernel_rfl)
     have hb23_ := hall 23 (by kernel_rfl)
     have hb27_ := hall 27 (by kernel_rfl)
     have hb28_ := hall 28 (by kernel_rfl)
     have hb29_ := hall 29 (by kernel_rfl)
     have hb30_ := hall 30 (by kernel_rfl)
     have hb31_ := hall 31 (by kernel_rfl)
     have hb35_ := hall 35 (by kernel_rfl)
     have hb36_ := hall 36 (by kernel_rfl)
     have hb37_ := hall 37 (by kernel_rfl)
     have hb38_ := hall 38 (by kernel_rfl)
     have hb39_ := hall 39 (by kernel_rfl)
     subst ha
     obtain rfl := Q_X12_ hb12_
     simp only [putSel, hb3_, hb4_, hb5_, hb6_, hb7_, hb8_, hb10_, hb11_, hb12_, hb13_, hb14_, hb15_, hb19_, hb20_, hb21_, hb22_, hb23_, hb27_, hb28_, hb29_, hb30_, hb31_, hb35_, hb36_, hb37_, hb38_, hb39_, if_true, Act.put, List.setIfInBounds_toArray, List.set_cons_zero, List.set_cons_succ]
     have BK164 := Aside0.mk Q_BK164
     clear Q_BK164
     have HB := Aside0.mk Q_HB
     clear Q_HB
     have HO175 := Aside0.mk (Q_HO175 hb8_)
     clear Q_HO175
     have HA_HO175 := Aside0.mk (Q_HA_HO175 hb8_)
     clear Q_HA_HO175
     clear hall hb3_ hb4_ hb5_ hb6_ hb7_ hb8_ hb10_ hb11_ hb12_ hb13_ hb14_ hb15_ hb19_ hb20_ hb21_ hb22_ hb23_ hb27_ hb28_ hb29_ hb30_ hb31_ hb35_ hb36_ hb37_ hb38_ hb39_
     obtain ⟨co94, eo94⟩ := HA_HO175.out
     clear HA_HO175
     subst eo94
     try go_wp2
     go_ret
     exact ⟨by first | rfl | (simp [errW_none, errW_some] <;> rfl) | (simp only [← hji60]; first | rfl | (simp [errW_none, errW_some] <;> rfl)) | (simp [*, errW_none, errW_some] <;> rfl), hb_ HB⟩
     )
     exact p7_
    refine ?z9_
    let rec p9_ : type_of% ?z9_ := by(
    rw [if_neg c76] at H
    have c76b0 := decide_eq_false c76
    clear c76
    obtain rfl := Option.some.inj H
    go_enter Tryd.func18, Tryd.ntmps18
    try go_wp2
    replace HB := Aside0.mk (below_drew1 HB.out)
    have p162 : 0 ≤ (a2 : Int) := of_decide_eq_true (by first | (with_reducible assumption) | assumption)
    have q162 : a2 < (l0.length : Int) := of_decide_eq_true (by first | (with_reducible assumption) | assumption)
    obtain ⟨ad162, e162, hx162_0, hx162_1⟩ := at_T33 HR0.out a2 p162 q162
    have hw162_1 := hx162_1
    have hw162_0 := hx162_0
    cases e162
    replace hx162_0 := hc_ HB hx162_0
    replace hx162_1 := hc_ HB hx162_1
    replace p162 := eq_true p162
    replace q162 := eq_true q162
    have p163 : 0 ≤ (a2 : Int) := of_decide_eq_true (by first | (with_reducible assumption) | assumption)
    have q163 : a2 < (l1.length : Int) := of_decide_eq_true (by first | (with_reducible assumption) | assumption)
    obtain ⟨ad163, A163_0, c163_0, e163, hx163_0, hl163_0, hi163_0⟩ := at_L3 HR1.out a2 p163 q163
    have hw163_0 := hx163_0
    cases e163
    replace hx163_0 := hc_ HB hx163_0
    have HR163_0 := Aside0.mk hi163_0
    have HC163_0 := Aside0.mk hl163_0
    clear hi163_0 hl163_0
    replace p163 := eq_true p163
    replace q163 := eq_true q163
    refine start_ (n := 11) (S := fun w' => w'.cell? (ad162.add ((a2).toNat * 2)) = some (.int .i64 ((rd_T33 l0 a2).f0)) ∧ w'.cell? ⟨(ad162.add ((a2).toNat * 2)).block, (ad162.add ((a2).toNat * 2)).off + 1, none⟩ = some (.int .i64 ((rd_T33 l0 a2).f1)) ∧ w'.cell? (ad163.add (a2).toNat) = some (.slice A163_0 (rd_L3 l1 a2).length c163_0)) (ds := []) (bb 11 0) (by kernel_rfl) rfl rfl ⟨((HB.out.cell (World.block_lt_of_cell? w _ hw162_0)).trans hw162_0), ((HB.out.cell (World.block_lt_of_cell? w _ hw162_1)).trans hw162_1), ((HB.out.cell (World.block_lt_of_cell? w _ hw163_0)).trans hw163_0)⟩ (fun hHeld => ?_); refine with_tabW spec_ruShow.tab1 spec_ruShow.bits1 (fun HT_ HW_ => ?_)
    generalize w.drew = w95 at HB HR163_0 hx162_0 hx162_1 hx163_0 hHeld ⊢
    refine pl_ HT_ 0 (some 13) (bb 11 1) (h := ?_)
    refine pl_ HT_ 1 (some 14) (bb 11 3) (h := ?_)
    refine pl_ HT_ 2 (some 15) (bb 11 7) (h := ?_)
    refine pl_ HT_ 4 (some 17) (bb 11 23) (h := ?_)
    refine pl_ HT_ 5 (some 18) (bb 11 55) (h := ?_)
    refine pl_ HT_ 6 (some 19) (bb 11 119) (h := ?_)
    refine tk_ HT_ HW_ hHeld 3 (some 16) (bb 11 127) (h := ?_)
    refine tk_ HT_ HW_ hHeld 7 (some 20) (bb 11 255) (h := ?_)
    refine one_ (i := 8) (N := some 9) (bb 11 511) rfl rfl (one_of HT_.out (by kernel_rfl)) (by decide) (fun K hK => ?_)
    refine box_step ?hg (N := 9) ?hd (cs := #[.int .i64 0, .int .i64 0]) (t := 33) ?hr ?_; (case hd => rfl); (case hg => rfl); (case hr => first | (go_simp; done) | (go_simp; rfl))
    intro gb164 hg w96 hbox hb
    have n0_ := Aside0.mk (below_step (hb_ HB) hb)
    have n1_ := Aside0.mk (hbox)
    have n2_ := Aside0.mk ((by rw [hg]; exact (below_size (hb_ HB)) : w.heap.size ≤ gb164))
    have n3_ := Aside0.mk ((by rw [hg]; exact (below_size (hb_ HB)) : w.heap.size ≤ gb164))
    clear HB
    have HB := n0_
    have BK164 := n1_
    have GW164 := n2_
    have GE164 := n3_
    clear n0_ n1_ n2_ n3_
    clear hb hbox hg
    refine hK.out _ _ ⟨((HB.out.cell (World.block_lt_of_cell? w _ hw162_0)).trans hw162_0), ((HB.out.cell (World.block_lt_of_cell? w _ hw162_1)).trans hw162_1), ((HB.out.cell (World.block_lt_of_cell? w _ hw163_0)).trans hw163_0)⟩ (fun hHeld => ?_)
    clear hK K
    refine nm_ (some 9) (h := ?_)
    refine one_ (i := 9) (N := none) (bb 11 1023) rfl rfl (one_of HT_.out (by kernel_rfl)) (by decide) (fun K hK => ?_)
    have hs97 : w96.cell? ⟨gb164, 0, none⟩ = some (.int .i64 0) := (blk_cell BK164.out 0).trans rfl
    have hfs97 := blk_frozen BK164.out 0
    have hs98 : w96.cell? ⟨gb164, 1, none⟩ = some (.int .i64 0) := (blk_cell BK164.out 1).trans rfl
    have hfs98 := blk_frozen BK164.out 1
    refine skip_ (w1 := ?_) (by rfl) rfl ?_ ?_
    rotate_left
    ·go_simp
     rfl
    refine hK.out _ _ ⟨((cell_far (p := ⟨gb164, _, none⟩) (by first | exact Nat.ne_of_lt (Nat.lt_of_lt_of_le (by have := World.block_lt_of_cell? _ _ hw162_0; first | rwa [add_block] at this | exact this) GW164.out) | (rw [add_block]; exact Nat.ne_of_lt (Nat.lt_of_lt_of_le (by have := World.block_lt_of_cell? _ _ hw162_0; first | rwa [add_block] at this | exact this) GW164.out)) | (show (Addr.add _ _).block ≠ _; rw [add_block]; exact Nat.ne_of_lt (Nat.lt_of_lt_of_le (by have := World.block_lt_of_cell? _ _ hw162_0; first | rwa [add_block] at this | exact this) GW164.out)) | (dsimp only; exact Nat.ne_of_lt (Nat.lt_of_lt_of_le (by have := World.block_lt_of_cell? _ _ hw162_0; first | rwa [add_block] at this | exact this) GW164.out))) _).trans (((cell_far (p := ⟨gb164, _, none⟩) (by first | exact Nat.ne_of_lt (Nat.lt_of_lt_of_le (by have := World.block_lt_of_cell? _ _ hw162_0; first | rwa [add_block] at this | exact this) GW164.out) | (rw [add_block]; exact Nat.ne_of_lt (Nat.lt_of_lt_of_le (by have := World.block_lt_of_cell? _ _ hw162_0; first | rwa [add_block] at this | exact this) GW164.out)) | (show (Addr.add _ _).block ≠ _; rw [add_block]; exact Nat.ne_of_lt (Nat.lt_of_lt_of_le (by have := World.block_lt_of_cell? _ _ hw162_0; first | rwa [add_block] at this | exact this) GW164.out)) | (dsimp only; exact Nat.ne_of_lt (Nat.lt_of_lt_of_le (by have := World.block_lt_of_cell? _ _ hw162_0; first | rwa [add_block] at this | exact this) GW164.out))) _).trans (hHeld.1)))), ((cell_far (p := ⟨gb164, _, none⟩) (by first | exact Nat.ne_of_lt (Nat.lt_of_lt_of_le (by have := World.block_lt_of_cell? _ _ hw162_1; first | rwa [add_block] at this | exact this) GW164.out) | (rw [add_block]; exact Nat.ne_of_lt (Nat.lt_of_lt_of_le (by have := World.block_lt_of_cell? _ _ hw162_1; first | rwa [add_block] at this | exact this) GW164.out)) | (show (Addr.add _ _).block ≠ _; rw [add_block]; exact Nat.ne_of_lt (Nat.lt_of_lt_of_le (by have := World.block_lt_of_cell? _ _ hw162_1; first | rwa [add_block] at this | exact this) GW164.out)) | (dsimp only; exact Nat.ne_of_lt (Nat.lt_of_lt_of_le (by have := World.block_lt_of_cell? _ _ hw162_1; first | rwa [add_block] at this | exact this) GW164.out))) _).trans (((cell_far (p := ⟨gb164, _, none⟩) (by first | exact Nat.ne_of_lt (Nat.lt_of_lt_of_le (by have := World.block_lt_of_cell? _ _ hw162_1; first | rwa [add_block] at this | exact this) GW164.out) | (rw [add_block]; exact Nat.ne_of_lt (Nat.lt_of_lt_of_le (by have := World.block_lt_of_cell? _ _ hw162_1; first | rwa [add_block] at this | exact this) GW164.out)) | (show (Addr.add _ _).block ≠ _; rw [add_block]; exact Nat.ne_of_lt (Nat.lt_of_lt_of_le (by have := World.block_lt_of_cell? _ _ hw162_1; first | rwa [add_block] at this | exact this) GW164.out)) | (dsimp only; exact Nat.ne_of_lt (Nat.lt_of_lt_of_le (by have := World.block_lt_of_cell? _ _ hw162_1; first | rwa [add_block] at this | exact this) GW164.out))) _).trans (hHeld.2.1)))), ((cell_far (p := ⟨gb164, _, none⟩) (by first | exact Nat.ne_of_lt (Nat.lt_of_lt_of_le (by have := World.block_lt_of_cell? _ _ hw163_0; first | rwa [add_block] at this | exact this) GW164.out) | (rw [add_block]; exact Nat.ne_of_lt (Nat.lt_of_lt_of_le (by have := World.block_lt_of_cell? _ _ hw163_0; first | rwa [add_block] at this | exact this) GW164.out)) | (show (Addr.add _ _).block ≠ _; rw [add_block]; exact Nat.ne_of_lt (Nat.lt_of_lt_of_le (by have := World.block_lt_of_cell? _ _ hw163_0; first | rwa [add_block] at this | exact this) GW164.out)) | (dsimp only; exact Nat.ne_of_lt (Nat.lt_of_lt_of_le (by have := World.block_lt_of_cell? _ _ hw163_0; first | rwa [add_block] at this | exact this) GW164.out))) _).trans (((cell_far (p := ⟨gb164, _, none⟩) (by first | exact Nat.ne_of_lt (Nat.lt_of_lt_of_le (by have := World.block_lt_of_cell? _ _ hw163_0; first | rwa [add_block] at this | exact this) GW164.out) | (rw [add_block]; exact Nat.ne_of_lt (Nat.lt_of_lt_of_le (by have := World.block_lt_of_cell? _ _ hw163_0; first | rwa [add_block] at this | exact this) GW164.out)) | (show (Addr.add _ _).block ≠ _; rw [add_block]; exact Nat.ne_of_lt (Nat.lt_of_lt_of_le (by have := World.block_lt_of_cell? _ _ hw163_0; first | rwa [add_block] at this | exact this) GW164.out)) | (dsimp only; exact Nat.ne_of_lt (Nat.lt_of_lt_of_le (by have := World.block_lt_of_cell? _ _ hw163_0; first | rwa [add_block] at this | exact this) GW164.out))) _).trans (hHeld.2.2))))⟩ (fun hHeld => ?_)
    clear hK K
    refine pl_ HT_ 10 (some 10) (bb 11 2047) (h := ?_)
    refine done_ (done_of HT_.out (by kernel_rfl)) ?_
    obtain ⟨hcz99_0, hcz99_1, hfz99_0, hfz99_1⟩ := bx2 BK164
    try go_wp2_with (first | ((with_reducible refine gate_callee (f := 26) rfl ?_); refine gl_ (some 23) Tryd.func26 #[.int .i64 ((rd_T33 l0 a2).f0)] rfl rfl rfl ?_; (with_reducible refine (spec_ruLevel.calls ((rd_T33 l0 a2).f0) t165 _ A8.out).mono ?_); rintro e w' ⟨rfl, ⟨nd, rfl⟩⟩; refine ⟨_, rfl, ?_⟩))
    have pi176 : (0 ≤ ((ji60) : Int)) = True := eq_true (of_decide_eq_true (by first | (with_reducible assumption) | assumption))
    have qi176 : ((ji60) < (y173.length : Int)) = True := eq_true (of_decide_eq_true (by first | (with_reducible assumption) | assumption))
    have n0_ : Aside0 (((w96.setCell ⟨gb164, 0, none⟩ (.int .i64 ((rd_T33 l0 a2).f0))).setCell ⟨gb164, 1, none⟩ (.int .i64 ((rd_T33 l0 a2).f1))).heap[gb164]? = some (.cells #[.int .i64 ((rd_T33 l0 a2).f0), .int .i64 ((rd_T33 l0 a2).f1)] 33 (0, 0))) := ⟨kpq_ (kputs BK164 [(0, _), (1, _)])⟩
    have n1_ : Aside0 (Below w.heap.size w ((w96.setCell ⟨gb164, 0, none⟩ (.int .i64 ((rd_T33 l0 a2).f0))).setCell ⟨gb164, 1, none⟩ (.int .i64 ((rd_T33 l0 a2).f1)))) := ⟨hb_ HB⟩
    generalize ((w96.setCell ⟨gb164, 0, none⟩ (.int .i64 ((rd_T33 l0 a2).f0))).setCell ⟨gb164, 1, none⟩ (.int .i64 ((rd_T33 l0 a2).f1))) = w100 at n0_ n1_ ⊢
    have BK164 := n0_
    have HB := n1_
    clear n0_ n1_
    (try (rw [drewN_self w100]; generalize hq_ : World.drewN w100 _ = w100; have n0_ : Aside0 (w100.heap[gb164]? = some (.cells #[.int .i64 ((rd_T33 l0 a2).f0), .int .i64 ((rd_T33 l0 a2).f1)] 33 (0, 0))) := ⟨by rw [← hq_]; exact (kp_ BK164)⟩; have n1_ : Aside0 (Below w.heap.size w w100) := ⟨by rw [← hq_]; exact (hb_ HB)⟩; clear BK164 HB hq_; have BK164 := n0_; have HB := n1_; clear n0_ n1_))
    replace BK164 := Aside0.mk (blk_drew BK164.out)
    replace HB := Aside0.mk (below_drew1 HB.out)
    have p171 : 0 ≤ (0 : Int) := (by omega)
    have q171 : 0 < ((rd_L3 l1 a2).length : Int) := of_decide_eq_true (by first | (with_reducible assumption) | assumption)
    obtain ⟨ad171, e171, hx171_0⟩ := Kd.at_int HR163_0.out 0 p171 q171
    have hw171_0 := hx171_0
    (try rw [show ((0 : Int)).toNat = 0 from rfl] at hw171_0)
    (try rw [show 0 * 1 = 0 from rfl] at hw171_0)
    (try rw [Addr.add_zero'] at hw171_0)
    cases e171
    have qi171 : (0 < (rd_L3 l1 a2).length) = True := eq_true (by omega)
    (try rw [show ((0 : Int)).toNat = 0 from rfl] at hx171_0)
    (try rw [Addr.add_zero'] at hx171_0)
    replace hx171_0 := hc_ HB hx171_0
    replace p171 := eq_true p171
    replace q171 := eq_true q171
    have p177 : 0 ≤ (1 : Int) := (by omega)
    have q177 : 1 < ((rd_L3 l1 a2).length : Int) := of_decide_eq_true (by first | (with_reducible assumption) | assumption)
    obtain ⟨ad177, e177, hx177_0⟩ := Kd.at_int HR163_0.out 1 p177 q177
    have hw177_0 := hx177_0
    (try rw [show ((1 : Int)).toNat = 1 from rfl] at hw177_0)
    (try rw [show 1 * 1 = 1 from rfl] at hw177_0)
    (try simp only [Nat.reduceMul, Nat.reduceEqDiff, Go.Addr.add, ↓reduceIte] at hw177_0)
    obtain rfl : ad171 = ad177 := (by injection e177)
    (try simp only [show (1 : Int).toNat = 1 from rfl, Nat.reduceMul, Nat.reduceEqDiff, Go.Addr.add, ↓reduceIte] at hx177_0)
    have qi177 : (1 < (rd_L3 l1 a2).length) = True := eq_true (by omega)
    (try rw [show ((1 : Int)).toNat = 1 from rfl] at hx177_0)
    replace hx177_0 := hc_ HB hx177_0
    replace p177 := eq_true p177
    replace q177 := eq_true q177
    have p179 : 0 ≤ (2 : Int) := (by omega)
    have q179 : 2 < ((rd_L3 l1 a2).length : Int) := of_decide_eq_true (by first | (with_reducible assumption) | assumption)
    obtain ⟨ad179, e179, hx179_0⟩ := Kd.at_int HR163_0.out 2 p179 q179
    have hw179_0 := hx179_0
    (try rw [show ((2 : Int)).toNat = 2 from rfl] at hw179_0)
    (try rw [show 2 * 1 = 2 from rfl] at hw179_0)
    (try simp only [Nat.reduceMul, Nat.reduceEqDiff, Go.Addr.add, ↓reduceIte] at hw179_0)
    obtain rfl : ad171 = ad179 := (by injection e179)
    (try simp only [show (2 : Int).toNat = 2 from rfl, Nat.reduceMul, Nat.reduceEqDiff, Go.Addr.add, ↓reduceIte] at hx179_0)
    have qi179 : (2 < (rd_L3 l1 a2).length) = True := eq_true (by omega)
    (try rw [show ((2 : Int)).toNat = 2 from rfl] at hx179_0)
    replace hx179_0 := hc_ HB hx179_0
    replace p179 := eq_true p179
    replace q179 := eq_true q179
    have p181 : 0 ≤ (3 : Int) := (by omega)
    have q181 : 3 < ((rd_L3 l1 a2).length : Int) := of_decide_eq_true (by first | (with_reducible assumption) | assumption)
    obtain ⟨ad181, e181, hx181_0⟩ := Kd.at_int HR163_0.out 3 p181 q181
    have hw181_0 := hx181_0
    (try rw [show ((3 : Int)).toNat = 3 from rfl] at hw181_0)
    (try rw [show 3 * 1 = 3 from rfl] at hw181_0)
    (try simp only [Nat.reduceMul, Nat.reduceEqDiff, Go.Addr.add, ↓reduceIte] at hw181_0)
    obtain rfl : ad171 = ad181 := (by injection e181)
    (try simp only [show (3 : Int).toNat = 3 from rfl, Nat.reduceMul, Nat.reduceEqDiff, Go.Addr.add, ↓reduceIte] at hx181_0)
    have qi181 : (3 < (rd_L3 l1 a2).length) = True := eq_true (by omega)
    (try rw [show ((3 : Int)).toNat = 3 from rfl] at hx181_0)
    replace hx181_0 := hc_ HB hx181_0
    replace p181 := eq_true p181
    replace q181 := eq_true q181
    refine start_ (n := 40) (S := fun w' => True) (ds := []) (bb 40 0) (by kernel_rfl) rfl rfl trivial (fun hHeld => ?_); refine with_tabW spec_ruShow.tab11 spec_ruShow.bits11 (fun HT_ HW_ => ?_)
    generalize w100.drew = w101 at BK164 HB hx171_0 hx177_0 hx179_0 hx181_0 hHeld ⊢
    refine pl_ HT_ 0 (some 65) (bb 40 1) (h := ?_)
    refine pl_ HT_ 1 (some 66) (bb 40 3) (h := ?_)
    refine pl_ HT_ 2 (some 67) (bb 40 7) (h := ?_)
    refine pl_ HT_ 9 (some 74) (bb 40 519) (h := ?_)
    refine pl_ HT_ 16 (some 81) (bb 40 66055) (h := ?_)
    refine pl_ HT_ 17 (some 82) (bb 40 197127) (h := ?_)
    refine pl_ HT_ 18 (some 83) (bb 40 459271) (h := ?_)
    refine pl_ HT_ 24 (some 89) (bb 40 17236487) (h := ?_)
    refine pl_ HT_ 25 (some 90) (bb 40 50790919) (h := ?_)
    refine pl_ HT_ 26 (some 91) (bb 40 117899783) (h := ?_)
    refine pl_ HT_ 32 (some 97) (bb 40 4412867079) (h := ?_)
    refine pl_ HT_ 33 (some 98) (bb 40 13002801671) (h := ?_)
    refine pl_ HT_ 34 (some 99) (bb 40 30182670855) (h := ?_)
    refine inv_at [3, 4, 5, 6, 7, 8, 10, 11, 12, 13, 14, 15, 19, 20, 21, 22, 23, 27, 28, 29, 30, 31, 35, 36, 37, 38, 39] (fun a0_ b a w' => ∃ (v174 : Value) (adz_v174 : Addr) (m12_ : Value), a = putSel a0_ b [(3, 68, .pointer (some ad171)), (4, 69, .int .i64 (rd (rd_L3 l1 a2) 0)), (5, 70, .string t172), (6, 71, .string ((⟨#[105, 102, 32]⟩ : ByteArray) ++ t172)), (7, 72, .string (((⟨#[105, 102, 32]⟩ : ByteArray) ++ t172) ++ (⟨#[32]⟩ : ByteArray))), (8, 73, v174), (10, 75, .int .i64 ((rd_T33 l0 a2).f0)), (11, 76, .int .i64 ji60), (12, 77, m12_), (13, 78, .string (rdOf ByteArray.empty y173 (ji60))), (14, 79, .string ((((⟨#[105, 102, 32]⟩ : ByteArray) ++ t172) ++ (⟨#[32]⟩ : ByteArray)) ++ (rdOf ByteArray.empty y173 (ji60)))), (15, 80, .string (((((⟨#[105, 102, 32]⟩ : ByteArray) ++ t172) ++ (⟨#[32]⟩ : ByteArray)) ++ (rdOf ByteArray.empty y173 (ji60))) ++ (⟨#[32]⟩ : ByteArray))), (19, 84, .pointer (some (ad171.add 1))), (20, 85, .int .i64 (rd (rd_L3 l1 a2) 1)), (21, 86, .string t178), (22, 87, .string ((((((⟨#[105, 102, 32]⟩ : ByteArray) ++ t172) ++ (⟨#[32]⟩ : ByteArray)) ++ (rdOf ByteArray.empty y173 (ji60))) ++ (⟨#[32]⟩ : ByteArray)) ++ t178)), (23, 88, .string (((((((⟨#[105, 102, 32]⟩ : ByteArray) ++ t172) ++ (⟨#[32]⟩ : ByteArray)) ++ (rdOf ByteArray.empty y173 (ji60))) ++ (⟨#[32]⟩ : ByteArray)) ++ t178) ++ (⟨#[32, 116, 104, 101, 110, 32]⟩ : ByteArray))), (27, 92, .pointer (some (ad171.add 2))), (28, 93, .int .i64 (rd (rd_L3 l1 a2) 2)), (29, 94, .string t180), (30, 95, .string ((((((((⟨#[105, 102, 32]⟩ : ByteArray) ++ t172) ++ (⟨#[32]⟩ : ByteArray)) ++ (rdOf ByteArray.empty y173 (ji60))) ++ (⟨#[32]⟩ : ByteArray)) ++ t178) ++ (⟨#[32, 116, 104, 101, 110, 32]⟩ : ByteArray)) ++ t180)), (31, 96, .string (((((((((⟨#[105, 102, 32]⟩ : ByteArray) ++ t172) ++ (⟨#[32]⟩ : ByteArray)) ++ (rdOf ByteArray.empty y173 (ji60))) ++ (⟨#[32]⟩ : ByteArray)) ++ t178) ++ (⟨#[32, 116, 104, 101, 110, 32]⟩ : ByteArray)) ++ t180) ++ (⟨#[32, 101, 108, 115, 101, 32]⟩ : ByteArray))), (35, 100, .pointer (some (ad171.add 3))), (36, 101, .int .i64 (rd (rd_L3 l1 a2) 3)), (37, 102, .string t182), (38, 103, .string ((((((((((⟨#[105, 102, 32]⟩ : ByteArray) ++ t172) ++ (⟨#[32]⟩ : ByteArray)) ++ (rdOf ByteArray.empty y173 (ji60))) ++ (⟨#[32]⟩ : ByteArray)) ++ t178) ++ (⟨#[32, 116, 104, 101, 110, 32]⟩ : ByteArray)) ++ t180) ++ (⟨#[32, 101, 108, 115, 101, 32]⟩ : ByteArray)) ++ t182)), (39, 12, .string ((((((((((⟨#[105, 102, 32]⟩ : ByteArray) ++ t172) ++ (⟨#[32]⟩ : ByteArray)) ++ (rdOf ByteArray.empty y173 (ji60))) ++ (⟨#[32]⟩ : ByteArray)) ++ t178) ++ (⟨#[32, 116, 104, 101, 110, 32]⟩ : ByteArray)) ++ t180) ++ (⟨#[32, 101, 108, 115, 101, 32]⟩ : ByteArray)) ++ t182))] ∧ (w'.heap[gb164]? = some (.cells #[.int .i64 ((rd_T33 l0 a2).f0), .int .i64 ((rd_T33 l0 a2).f1)] 33 (0, 0))) ∧ (Below w.heap.size w w') ∧ (b 8 = true → Kd.R Kd.string 9 w' w.heap.size (fun _ => True) v174 y173) ∧ (b 8 = true → ∃ c_, (v174 : Value) = .slice (some adz_v174) y173.length c_) ∧ (b 12 = true → (m12_ : Value) = .pointer (some (adz_v174.add ((ji60)).toNat)))) HT_.out HW_.out (by kernel_rfl) (by kernel_rfl) ?_ ?_ ?_
    ·exact ⟨.bool false, ⟨0, 0, none⟩, .bool false, by simp only [putSel, Bool.false_eq_true, if_false], BK164.out, HB.out, fun h_ => absurd h_ (by decide), fun h_ => absurd h_ (by decide), fun h_ => absurd h_ (by decide)⟩
    ·refine ?z10_
     let rec p10_ : type_of% ?z10_ := by(
     skip
     clear BK164 HB
     refine steps_cons ?_ ?_
     ·rintro b a w' ⟨v174, adz_v174, m12_, ha, Q_BK164, Q_HB, Q_HO175, Q_HA_HO175, Q_X12_⟩ hbq_ hon hoff
      refine ⟨_, rfl, fun K hK => ?_⟩
      have e67 : a.tmps[67]? = some (.slice (some ad171) (rd_L3 l1 a2).length c163_0) := by rw [ha]; exact (putSel_off rfl).trans rfl
      replace ha := Aside0.mk ha
      have BK164 := Aside0.mk Q_BK164
      have HB := Aside0.mk Q_HB
      have hs0_ : w'.cell? ad171 = some (.int .i64 (rd (rd_L3 l1 a2) 0)) := ((HB.out.cell (World.block_lt_of_cell? w _ hw171_0)).trans hw171_0)
      refine value_ (w1 := w') (v := .pointer (some ad171)) (by rfl) rfl ?_ ?_
      ·go_simp
       (try simp only [i64_w])
       try rfl
      refine hK.out _ _ ⟨v174, adz_v174, m12_, (by rw [ha.out]; exact putSel_upk 0 hbq_ rfl rfl rfl), Q_BK164, Q_HB, Q_HO175, Q_HA_HO175, Q_X12_⟩
     refine steps_cons ?_ ?_
     ·rintro b a w' ⟨v174, adz_v174, m12_, ha, Q_BK164, Q_HB, Q_HO175, Q_HA_HO175, Q_X12_⟩ hbq_ hon hoff
      refine ⟨_, rfl, fun K hK => ?_⟩
      have e68 : a.tmps[68]? = some (.pointer (some ad171)) := by rw [ha]; exact putSel_on (e := (3, 68, .pointer (some ad171))) 0 rfl rfl (hon 3 (by kernel_rfl)) rfl
      replace ha := Aside0.mk ha
      have BK164 := Aside0.mk Q_BK164
      have HB := Aside0.mk Q_HB
      have hs0_ : w'.cell? ad171 = some (.int .i64 (rd (rd_L3 l1 a2) 0)) := ((HB.out.cell (World.block_lt_of_cell? w _ hw171_0)).trans hw171_0)
      refine value_ (w1 := w') (v := .int .i64 (rd (rd_L3 l1 a2) 0)) (by rfl) rfl ?_ ?_
      ·go_simp
       (try simp only [i64_w])
       try rfl
      refine hK.out _ _ ⟨v174, adz_v174, m12_, (by rw [ha.out]; exact putSel_upk 1 hbq_ rfl rfl rfl), Q_BK164, Q_HB, Q_HO175, Q_HA_HO175, Q_X12_⟩
     refine steps_cons ?_ ?_
     ·rintro b a w' ⟨v174, adz_v174, m12_, ha, Q_BK164, Q_HB, Q_HO175, Q_HA_HO175, Q_X12_⟩ hbq_ hon hoff
      refine ⟨_, rfl, fun K hK => ?_⟩
      have e65 : a.tmps[65]? = some (.slice (some ad162) l0.length c0) := by rw [ha]; exact (putSel_off rfl).trans rfl
      have e66 : a.tmps[66]? = some (.slice (some ad163) l1.length c1) := by rw [ha]; exact (putSel_off rfl).trans rfl
      have e69 : a.tmps[69]? = some (.int .i64 (rd (rd_L3 l1 a2) 0)) := by rw [ha]; exact putSel_on (e := (4, 69, .int .i64 (rd (rd_L3 l1 a2) 0))) 1 rfl rfl (hon 4 (by kernel_rfl)) rfl
      replace ha := Aside0.mk ha
      have BK164 := Aside0.mk Q_BK164
      have HB := Aside0.mk Q_HB
      refine goes_ Tryd.func18 (by kernel_rfl) rfl #[.slice (some ad162) l0.length c0, .slice (some ad163) l1.length c1, .int .i64 (rd (rd_L3 l1 a2) 0), .int .i64 1] (by rfl) rfl rfl (by first | (simp only [List.map_toArray, List.map_cons, List.map_nil, Act.eval, Array.getD_eq_getD_getElem?, Option.getD_some, e65, e66, e69]; done) | (simp only [List.map_toArray, List.map_cons, List.map_nil, Act.eval, Array.getD_eq_getD_getElem?, Option.getD_some, e65, e66, e69]; rfl)) ?_
      with_reducible refine (ih k (by omega) _ _ l0 _ _ l1 (rd (rd_L3 l1 a2) 0) 1 t172 _ ?side1 ?side2 ?side3 ?side4 A57.out).mono ?_
      (case side1 => exact Kd.C_w HR0 HB)
      (case side2 => exact HC0.out)
      (case side3 => exact Kd.C_w HR1 HB)
      (case side4 => exact HC1.out)
      rintro e w102 ⟨rfl, hb⟩
      refine ⟨_, rfl, ?_⟩
      have n0_ := Aside0.mk (blk_below (kp_ BK164) hb)
      have n1_ := Aside0.mk (below_step (hb_ HB) hb)
      have z_HO175 := fun (h0_ : b 8 = true) => (show Kd.R Kd.string 9 w102 w.heap.size (fun _ => True) v174 y173 from by first | exact (Kd.R_below (Kd.R_pp ((Q_HO175 h0_))) hb) | exact Kd.R_mono (Kd.R_below (Kd.R_pp ((Q_HO175 h0_))) hb) (fun _ h_ => by first | trivial | exact h_ | exact h_.1))
      clear BK164
      clear HB
      have BK164 := n0_
      have HB := n1_
      clear n0_ n1_
      refine hK.out _ _ ⟨v174, adz_v174, m12_, (by rw [ha.out]; exact putSel_upk 2 hbq_ rfl rfl rfl), (kp_ BK164), (hb_ HB), z_HO175, Q_HA_HO175, Q_X12_⟩
     refine steps_cons ?_ ?_
     ·rintro b a w' ⟨v174, adz_v174, m12_, ha, Q_BK164, Q_HB, Q_HO175, Q_HA_HO175, Q_X12_⟩ hbq_ hon hoff
      refine ⟨_, rfl, fun K hK => ?_⟩
      have e70 : a.tmps[70]? = some (.string t172) := by rw [ha]; exact putSel_on (e := (5, 70, .string t172)) 2 rfl rfl (hon 5 (by kernel_rfl)) rfl
      replace ha := Aside0.mk ha
      have BK164 := Aside0.mk Q_BK164
      have HB := Aside0.mk Q_HB
      refine value_ (w1 := w') (v := .string ((⟨#[105, 102, 32]⟩ : ByteArray) ++ t172)) (by rfl) rfl ?_ ?_
      ·go_simp
       (try simp only [i64_w])
       try rfl
      refine hK.out _ _ ⟨v174, adz_v174, m12_, (by rw [ha.out]; exact putSel_upk 3 hbq_ rfl rfl rfl), Q_BK164, Q_HB, Q_HO175, Q_HA_HO175, Q_X12_⟩
     refine steps_cons ?_ ?_
     ·rintro b a w' ⟨v174, adz_v174, m12_, ha, Q_BK164, Q_HB, Q_HO175, Q_HA_HO175, Q_X12_⟩ hbq_ hon hoff
      refine ⟨_, rfl, fun K hK => ?_⟩
      have e71 : a.tmps[71]? = some (.string ((⟨#[105, 102, 32]⟩ : ByteArray) ++ t172)) := by rw [ha]; exact putSel_on (e := (6, 71, .string ((⟨#[105, 102, 32]⟩ : ByteArray) ++ t172))) 3 rfl rfl (hon 6 (by kernel_rfl)) rfl
      replace ha := Aside0.mk ha
      have BK164 := Aside0.mk Q_BK164
      have HB := Aside0.mk Q_HB
      refine value_ (w1 := w') (v := .string (((⟨#[105, 102, 32]⟩ : ByteArray) ++ t172) ++ (⟨#[32]⟩ : ByteArray))) (by rfl) rfl ?_ ?_
      ·go_simp
       (try simp only [i64_w])
       try rfl
      refine hK.out _ _ ⟨v174, adz_v174, m12_, (by rw [ha.out]; exact putSel_upk 4 hbq_ rfl rfl rfl), Q_BK164, Q_HB, Q_HO175, Q_HA_HO175, Q_X12_⟩
     refine steps_cons ?_ ?_
     ·rintro b a w' ⟨v174, adz_v174, m12_, ha, Q_BK164, Q_HB, Q_HO175, Q_HA_HO175, Q_X12_⟩ hbq_ hon hoff
      refine ⟨_, rfl, fun K hK => ?_⟩
      replace ha := Aside0.mk ha
      have BK164 := Aside0.mk Q_BK164
      have HB := Aside0.mk Q_HB
      refine Kd.R_lit_step Kd.string _ 9 ?hg (N := 73) ?hd (xs := ([(⟨#[60]⟩ : ByteArray), (⟨#[61]⟩ : ByteArray), (⟨#[62]⟩ : ByteArray)] : List ByteArray)) (inner := [.string (⟨#[60]⟩ : ByteArray), .string (⟨#[61]⟩ : ByteArray), .string (⟨#[62]⟩ : ByteArray)]) (ok := fun _ => True) (okp := fun _ => True) ?hr ?hp (fun _ hk => hk) trivial (Below.refl _ _) (Nat.le_refl _) (by simp) ?_; (case hd => rfl); (case hg => rfl); (case hr => first | (go_simp; done) | (go_simp; rfl)); (case hp => exact (Reps.one (show Kd.M Kd.string _ _ _ (⟨#[60]⟩ : ByteArray) [.string (⟨#[60]⟩ : ByteArray)] from rfl) (Reps.one (show Kd.M Kd.string _ _ _ (⟨#[61]⟩ : ByteArray) [.string (⟨#[61]⟩ : ByteArray)] from rfl) (Reps.one (show Kd.M Kd.string _ _ _ (⟨#[62]⟩ : ByteArray) [.string (⟨#[62]⟩ : ByteArray)] from rfl) (Reps.none _ _)))))
      intro v174 w102 ho103 hb hg_ hnew_
      clear hg_ hnew_
      (first | rw [← Ny173.out] at ho103 | (simp only [Int.reduceToNat] at ho103; rw [← Ny173.out] at ho103))
      have HO175 := Aside0.mk (Kd.R_lower ho103 (below_size (hb_ HB)))
      replace BK164 := Aside0.mk (blk_below (kp_ BK164) hb)
      replace HB := Aside0.mk (below_step (hb_ HB) hb)
      clear hb ho103
      obtain ⟨Ao104, co104, eo104⟩ := Kd.R_slice HO175.out
      subst eo104
      obtain ⟨ado104, fo104, _⟩ := Kd.at_string (Kd.R_reads' HO175.out).2.2 0 (by decide) (by rw [Ny173.out]; simp)
      cases fo104
      refine hK.out _ _ ⟨.slice (some ado104) y173.length co104, ado104, m12_, (by rw [ha.out]; exact putSel_upk 5 hbq_ rfl rfl rfl), (kp_ BK164), (hb_ HB), fun _ => (Kd.R_p HO175), fun _ => ⟨_, rfl⟩, fun h0_ => absurd ((hoff 12 (by kernel_rfl)).symm.trans h0_) (by decide)⟩
     refine steps_cons ?_ ?_
     ·rintro b a w' ⟨v174, adz_v174, m12_, ha, Q_BK164, Q_HB, Q_HO175, Q_HA_HO175, Q_X12_⟩ hbq_ hon hoff
      refine ⟨_, rfl, fun K hK => ?_⟩
      have e74 : a.tmps[74]? = some (.pointer (some ⟨gb164, 0, none⟩)) := by rw [ha]; exact (putSel_off rfl).trans rfl
      replace ha := Aside0.mk ha
      have BK164 := Aside0.mk Q_BK164
      have HB := Aside0.mk Q_HB
      have hc0_ : w'.cell? ⟨gb164, 0, none⟩ = some (.int .i64 ((rd_T33 l0 a2).f0)) := (blk_cell BK164.out 0).trans rfl
      have hc1_ : w'.cell? ⟨gb164, 1, none⟩ = some (.int .i64 ((rd_T33 l0 a2).f1)) := (blk_cell BK164.out 1).trans rfl
      refine value_ (w1 := w') (v := .int .i64 ((rd_T33 l0 a2).f0)) (by rfl) rfl ?_ ?_
      ·go_simp
       (try simp only [i64_w])
       try rfl
      refine hK.out _ _ ⟨v174, adz_v174, m12_, (by rw [ha.out]; exact putSel_upk 6 hbq_ rfl rfl rfl), Q_BK164, Q_HB, Q_HO175, Q_HA_HO175, fun h0_ => absurd ((hoff 12 (by kernel_rfl)).symm.trans h0_) (by decide)⟩
     refine steps_cons ?_ ?_
     ·rintro b a w' ⟨v174, adz_v174, m12_, ha, Q_BK164, Q_HB, Q_HO175, Q_HA_HO175, Q_X12_⟩ hbq_ hon hoff
      refine ⟨_, rfl, fun K hK => ?_⟩
      have e75 : a.tmps[75]? = some (.int .i64 ((rd_T33 l0 a2).f0)) := by rw [ha]; exact putSel_on (e := (10, 75, .int .i64 ((rd_T33 l0 a2).f0))) 6 rfl rfl (hon 10 (by kernel_rfl)) rfl
      replace ha := Aside0.mk ha
      have BK164 := Aside0.mk Q_BK164
      have HB := Aside0.mk Q_HB
      refine value_ (w1 := w') (v := .int .i64 ji60) (by rfl) rfl ?_ ?_
      ·go_simp
       (try simp only [i64_w])
       try rfl
      refine hK.out _ _ ⟨v174, adz_v174, m12_, (by rw [ha.out]; exact putSel_upk 7 hbq_ rfl rfl rfl), Q_BK164, Q_HB, Q_HO175, Q_HA_HO175, fun h0_ => absurd ((hoff 12 (by kernel_rfl)).symm.trans h0_) (by decide)⟩
     refine steps_cons ?_ ?_
     ·rintro b a w' ⟨v174, adz_v174, m12_, ha, Q_BK164, Q_HB, Q_HO175, Q_HA_HO175, Q_X12_⟩ hbq_ hon hoff
      refine ⟨_, rfl, fun K hK => ?_⟩
      have e73 : a.tmps[73]? = some (v174) := by rw [ha]; exact putSel_on (e := (8, 73, v174)) 5 rfl rfl (hon 8 (by kernel_rfl)) rfl
      have e76 : a.tmps[76]? = some (.int .i64 ji60) := by rw [ha]; exact putSel_on (e := (11, 76, .int .i64 ji60)) 7 rfl rfl (hon 11 (by kernel_rfl)) rfl
      replace ha := Aside0.mk ha
      have BK164 := Aside0.mk Q_BK164
      have HB := Aside0.mk Q_HB
      have HO175 := Aside0.mk (Q_HO175 (hon 8 (by kernel_rfl)))
      have HA_HO175 := Aside0.mk (Q_HA_HO175 (hon 8 (by kernel_rfl)))
      obtain ⟨c_, hv_⟩ := HA_HO175.out
      rw [hv_] at e73
      refine value_ (w1 := w') (v := .pointer (some (adz_v174.add ((ji60)).toNat))) (by rfl) rfl ?_ ?_
      ·go_simp
       (try simp only [i64_w])
       try rfl
      refine hK.out _ _ ⟨v174, adz_v174, (.pointer (some (adz_v174.add ((ji60)).toNat))), (by rw [ha.out]; exact putSel_upk 8 hbq_ rfl rfl rfl), Q_BK164, Q_HB, Q_HO175, Q_HA_HO175, fun _ => rfl⟩
     refine steps_cons ?_ ?_
     ·rintro b a w' ⟨v174, adz_v174, m12_, ha, Q_BK164, Q_HB, Q_HO175, Q_HA_HO175, Q_X12_⟩ hbq_ hon hoff
      refine ⟨_, rfl, fun K hK => ?_⟩
      have e77 : a.tmps[77]? = some (m12_) := by rw [ha]; exact putSel_on (e := (12, 77, m12_)) 8 rfl rfl (hon 12 (by kernel_rfl)) rfl
      rw [Q_X12_ (hon 12 (by kernel_rfl))] at e77
      replace ha := Aside0.mk ha
      have BK164 := Aside0.mk Q_BK164
      have HB := Aside0.mk Q_HB
      have HO175 := Aside0.mk (Q_HO175 (hon 8 (by kernel_rfl)))
      have HA_HO175 := Aside0.mk (Q_HA_HO175 (hon 8 (by kernel_rfl)))
      obtain ⟨c_, hv_⟩ := HA_HO175.out
      have hF_ := HO175.out
      rw [hv_] at hF_
      obtain ⟨ad_, ea_, hx_⟩ := Kd.at_string (Kd.R_reads' hF_).2.2 (ji60) (of_eq_true pi176) (of_eq_true qi176)
      cases ea_
      refine value_ (w1 := w') (v := .string (rdOf ByteArray.empty y173 (ji60))) (by rfl) rfl ?_ ?_
      ·go_simp
       (try simp only [i64_w])
       try rfl
      refine hK.out _ _ ⟨v174, adz_v174, m12_, (by rw [ha.out]; exact putSel_upk 9 hbq_ rfl rfl rfl), Q_BK164, Q_HB, Q_HO175, Q_HA_HO175, Q_X12_⟩
     refine steps_cons ?_ ?_
     ·rintro b a w' ⟨v174, adz_v174, m12_, ha, Q_BK164, Q_HB, Q_HO175, Q_HA_HO175, Q_X12_⟩ hbq_ hon hoff
      refine ⟨_, rfl, fun K hK => ?_⟩
      have e72 : a.tmps[72]? = some (.string (((⟨#[105, 102, 32]⟩ : ByteArray) ++ t172) ++ (⟨#[32]⟩ : ByteArray))) := by rw [ha]; exact putSel_on (e := (7, 72, .string (((⟨#[105, 102, 32]⟩ : ByteArray) ++ t172) ++ (⟨#[32]⟩ : ByteArray)))) 4 rfl rfl (hon 7 (by kernel_rfl)) rfl
      have e78 : a.tmps[78]? = some (.string (rdOf ByteArray.empty y173 (ji60))) := by rw [ha]; exact putSel_on (e := (13, 78, .string (rdOf ByteArray.empty y173 (ji60)))) 9 rfl rfl (hon 13 (by kernel_rfl)) rfl
      replace ha := Aside0.mk ha
      have BK164 := Aside0.mk Q_BK164
      have HB := Aside0.mk Q_HB
      have HO175 := Aside0.mk (Q_HO175 (hon 8 (by kernel_rfl)))
      have HA_HO175 := Aside0.mk (Q_HA_HO175 (hon 8 (by kernel_rfl)))
      refine value_ (w1 := w') (v := .string ((((⟨#[105, 102, 32]⟩ : ByteArray) ++ t172) ++ (⟨#[32]⟩ : ByteArray)) ++ (rdOf ByteArray.empty y173 (ji60)))) (by rfl) rfl ?_ ?_
      ·go_simp
       (try simp only [i64_w])
       try rfl
      refine hK.out _ _ ⟨v174, adz_v174, m12_, (by rw [ha.out]; exact putSel_upk 10 hbq_ rfl rfl rfl), Q_BK164, Q_HB, Q_HO175, Q_HA_HO175, Q_X12_⟩
     refine steps_cons ?_ ?_
     ·rintro b a w' ⟨v174, adz_v174, m12_, ha, Q_BK164, Q_HB, Q_HO175, Q_HA_HO175, Q_X12_⟩ hbq_ hon hoff
      refine ⟨_, rfl, fun K hK => ?_⟩
      have e79 : a.tmps[79]? = some (.string ((((⟨#[105, 102, 32]⟩ : ByteArray) ++ t172) ++ (⟨#[32]⟩ : ByteArray)) ++ (rdOf ByteArray.empty y173 (ji60)))) := by rw [ha]; exact putSel_on (e := (14, 79, .string ((((⟨#[105, 102, 32]⟩ : ByteArray) ++ t172) ++ (⟨#[32]⟩ : ByteArray)) ++ (rdOf ByteArray.empty y173 (ji60))))) 10 rfl rfl (hon 14 (by kernel_rfl)) rfl
      replace ha := Aside0.mk ha
      have BK164 := Aside0.mk Q_BK164
      have HB := Aside0.mk Q_HB
      have HO175 := Aside0.mk (Q_HO175 (hon 8 (by kernel_rfl)))
      have HA_HO175 := Aside0.mk (Q_HA_HO175 (hon 8 (by kernel_rfl)))
      refine value_ (w1 := w') (v := .string (((((⟨#[105, 102, 32]⟩ : ByteArray) ++ t172) ++ (⟨#[32]⟩ : ByteArray)) ++ (rdOf ByteArray.empty y173 (ji60))) ++ (⟨#[32]⟩ : ByteArray))) (by rfl) rfl ?_ ?_
      ·go_simp
       (try simp only [i64_w])
       try rfl
      refine hK.out _ _ ⟨v174, adz_v174, m12_, (by rw [ha.out]; exact putSel_upk 11 hbq_ rfl rfl rfl), Q_BK164, Q_HB, Q_HO175, Q_HA_HO175, Q_X12_⟩
     refine steps_cons ?_ ?_
     ·rintro b a w' ⟨v174, adz_v174, m12_, ha, Q_BK164, Q_HB, Q_HO175, Q_HA_HO175, Q_X12_⟩ hbq_ hon hoff
      refine ⟨_, rfl, fun K hK => ?_⟩
      have e83 : a.tmps[83]? = some (.slice (some ad171) (rd_L3 l1 a2).length c163_0) := by rw [ha]; exact (putSel_off rfl).trans rfl
      replace ha := Aside0.mk ha
      have BK164 := Aside0.mk Q_BK164
      have HB := Aside0.mk Q_HB
      have hs1_ : w'.cell? ⟨ad171.block, ad171.off + 1, none⟩ = some (.int .i64 (rd (rd_L3 l1 a2) 1)) := ((HB.out.cell (World.block_lt_of_cell? w _ hw177_0)).trans hw177_0)
      refine value_ (w1 := w') (v := .pointer (some (ad171.add 1))) (by rfl) rfl ?_ ?_
      ·go_simp
       (try simp only [i64_w])
       try rfl
      refine hK.out _ _ ⟨v174, adz_v174, m12_, (by rw [ha.out]; exact putSel_upk 12 hbq_ rfl rfl rfl), Q_BK164, Q_HB, Q_HO175, Q_HA_HO175, Q_X12_⟩
     refine steps_cons ?_ ?_
     ·rintro b a w' ⟨v174, adz_v174, m12_, ha, Q_BK164, Q_HB, Q_HO175, Q_HA_HO175, Q_X12_⟩ hbq_ hon hoff
      refine ⟨_, rfl, fun K hK => ?_⟩
      have e84 : a.tmps[84]? = some (.pointer (some (ad171.add 1))) := by rw [ha]; exact putSel_on (e := (19, 84, .pointer (some (ad171.add 1)))) 12 rfl rfl (hon 19 (by kernel_rfl)) rfl
      replace ha := Aside0.mk ha
      have BK164 := Aside0.mk Q_BK164
      have HB := Aside0.mk Q_HB
      have hs1_ : w'.cell? ⟨ad171.block, ad171.off + 1, none⟩ = some (.int .i64 (rd (rd_L3 l1 a2) 1)) := ((HB.out.cell (World.block_lt_of_cell? w _ hw177_0)).trans hw177_0)
      refine value_ (w1 := w') (v := .int .i64 (rd (rd_L3 l1 a2) 1)) (by rfl) rfl ?_ ?_
      ·go_simp
       (try simp only [i64_w])
       try rfl
      refine hK.out _ _ ⟨v174, adz_v174, m12_, (by rw [ha.out]; exact putSel_upk 13 hbq_ rfl rfl rfl), Q_BK164, Q_HB, Q_HO175, Q_HA_HO175, Q_X12_⟩
     refine steps_cons ?_ ?_
     ·rintro b a w' ⟨v174, adz_v174, m12_, ha, Q_BK164, Q_HB, Q_HO175, Q_HA_HO175, Q_X12_⟩ hbq_ hon hoff
      refine ⟨_, rfl, fun K hK => ?_⟩
      have e81 : a.tmps[81]? = some (.slice (some ad162) l0.length c0) := by rw [ha]; exact (putSel_off rfl).trans rfl
      have e82 : a.tmps[82]? = some (.slice (some ad163) l1.length c1) := by rw [ha]; exact (putSel_off rfl).trans rfl
      have e85 : a.tmps[85]? = some (.int .i64 (rd (rd_L3 l1 a2) 1)) := by rw [ha]; exact putSel_on (e := (20, 85, .int .i64 (rd (rd_L3 l1 a2) 1))) 13 rfl rfl (hon 20 (by kernel_rfl)) rfl
      replace ha := Aside0.mk ha
      have BK164 := Aside0.mk Q_BK164
      have HB := Aside0.mk Q_HB
      refine goes_ Tryd.func18 (by kernel_rfl) rfl #[.slice (some ad162) l0.length c0, .slice (some ad163) l1.length c1, .int .i64 (rd (rd_L3 l1 a2) 1), .int .i64 1] (by rfl) rfl rfl (by first | (simp only [List.map_toArray, List.map_cons, List.map_nil, Act.eval, Array.getD_eq_getD_getElem?, Option.getD_some, e81, e82, e85]; done) | (simp only [List.map_toArray, List.map_cons, List.map_nil, Act.eval, Array.getD_eq_getD_getElem?, Option.getD_some, e81, e82, e85]; rfl)) ?_
      with_reducible refine (ih k (by omega) _ _ l0 _ _ l1 (rd (rd_L3 l1 a2) 1) 1 t178 _ ?side1 ?side2 ?side3 ?side4 A66.out).mono ?_
      (case side1 => exact Kd.C_w HR0 HB)
      (case side2 => exact HC0.out)
      (case side3 => exact Kd.C_w HR1 HB)
      (case side4 => exact HC1.out)
      rintro e w104 ⟨rfl, hb⟩
      refine ⟨_, rfl, ?_⟩
      have n0_ := Aside0.mk (blk_below (kp_ BK164) hb)
      have n1_ := Aside0.mk (below_step (hb_ HB) hb)
      have z_HO175 := fun (h0_ : b 8 = true) => (show Kd.R Kd.string 9 w104 w.heap.size (fun _ => True) v174 y173 from by first | exact (Kd.R_below (Kd.R_pp ((Q_HO175 h0_))) hb) | exact Kd.R_mono (Kd.R_below (Kd.R_pp ((Q_HO175 h0_))) hb) (fun _ h_ => by first | trivial | exact h_ | exact h_.1))
      clear BK164
      clear HB
      have BK164 := n0_
      have HB := n1_
      clear n0_ n1_
      refine hK.out _ _ ⟨v174, adz_v174, m12_, (by rw [ha.out]; exact putSel_upk 14 hbq_ rfl rfl rfl), (kp_ BK164), (hb_ HB), z_HO175, Q_HA_HO175, Q_X12_⟩
     refine steps_cons ?_ ?_
     ·rintro b a w' ⟨v174, adz_v174, m12_, ha, Q_BK164, Q_HB, Q_HO175, Q_HA_HO175, Q_X12_⟩ hbq_ hon hoff
      refine ⟨_, rfl, fun K hK => ?_⟩
      have e80 : a.tmps[80]? = some (.string (((((⟨#[105, 102, 32]⟩ : ByteArray) ++ t172) ++ (⟨#[32]⟩ : ByteArray)) ++ (rdOf ByteArray.empty y173 (ji60))) ++ (⟨#[32]⟩ : ByteArray))) := by rw [ha]; exact putSel_on (e := (15, 80, .string (((((⟨#[105, 102, 32]⟩ : ByteArray) ++ t172) ++ (⟨#[32]⟩ : ByteArray)) ++ (rdOf ByteArray.empty y173 (ji60))) ++ (⟨#[32]⟩ : ByteArray)))) 11 rfl rfl (hon 15 (by kernel_rfl)) rfl
      have e86 : a.tmps[86]? = some (.string t178) := by rw [ha]; exact putSel_on (e := (21, 86, .string t178)) 14 rfl rfl (hon 21 (by kernel_rfl)) rfl
      replace ha := Aside0.mk ha
      have BK164 := Aside0.mk Q_BK164
      have HB := Aside0.mk Q_HB
      have HO175 := Aside0.mk (Q_HO175 (hon 8 (by kernel_rfl)))
      have HA_HO175 := Aside0.mk (Q_HA_HO175 (hon 8 (by kernel_rfl)))
      refine value_ (w1 := w') (v := .string ((((((⟨#[105, 102, 32]⟩ : ByteArray) ++ t172) ++ (⟨#[32]⟩ : ByteArray)) ++ (rdOf ByteArray.empty y173 (ji60))) ++ (⟨#[32]⟩ : ByteArray)) ++ t178)) (by rfl) rfl ?_ ?_
      ·go_simp
       (try simp only [i64_w])
       try rfl
      refine hK.out _ _ ⟨v174, adz_v174, m12_, (by rw [ha.out]; exact putSel_upk 15 hbq_ rfl rfl rfl), Q_BK164, Q_HB, Q_HO175, Q_HA_HO175, Q_X12_⟩
     refine steps_cons ?_ ?_
     ·rintro b a w' ⟨v174, adz_v174, m12_, ha, Q_BK164, Q_HB, Q_HO175, Q_HA_HO175, Q_X12_⟩ hbq_ hon hoff
      refine ⟨_, rfl, fun K hK => ?_⟩
      have e87 : a.tmps[87]? = some (.string ((((((⟨#[105, 102, 32]⟩ : ByteArray) ++ t172) ++ (⟨#[32]⟩ : ByteArray)) ++ (rdOf ByteArray.empty y173 (ji60))) ++ (⟨#[32]⟩ : ByteArray)) ++ t178)) := by rw [ha]; exact putSel_on (e := (22, 87, .string ((((((⟨#[105, 102, 32]⟩ : ByteArray) ++ t172) ++ (⟨#[32]⟩ : ByteArray)) ++ (rdOf ByteArray.empty y173 (ji60))) ++ (⟨#[32]⟩ : ByteArray)) ++ t178))) 15 rfl rfl (hon 22 (by kernel_rfl)) rfl
      replace ha := Aside0.mk ha
      have BK164 := Aside0.mk Q_BK164
      have HB := Aside0.mk Q_HB
      have HO175 := Aside0.mk (Q_HO175 (hon 8 (by kernel_rfl)))
      have HA_HO175 := Aside0.mk (Q_HA_HO175 (hon 8 (by kernel_rfl)))
      refine value_ (w1 := w') (v := .string (((((((⟨#[105, 102, 32]⟩ : ByteArray) ++ t172) ++ (⟨#[32]⟩ : ByteArray)) ++ (rdOf ByteArray.empty y173 (ji60))) ++ (⟨#[32]⟩ : ByteArray)) ++ t178) ++ (⟨#[32, 116, 104, 101, 110, 32]⟩ : ByteArray))) (by rfl) rfl ?_ ?_
      ·go_simp
       (try simp only [i64_w])
       try rfl
      refine hK.out _ _ ⟨v174, adz_v174, m12_, (by rw [ha.out]; exact putSel_upk 16 hbq_ rfl rfl rfl), Q_BK164, Q_HB, Q_HO175, Q_HA_HO175, Q_X12_⟩
     refine steps_cons ?_ ?_
     ·rintro b a w' ⟨v174, adz_v174, m12_, ha, Q_BK164, Q_HB, Q_HO175, Q_HA_HO175, Q_X12_⟩ hbq_ hon hoff
      refine ⟨_, rfl, fun K hK => ?_⟩
      have e91 : a.tmps[91]? = some (.slice (some ad171) (rd_L3 l1 a2).length c163_0) := by rw [ha]; exact (putSel_off rfl).trans rfl
      replace ha := Aside0.mk ha
      have BK164 := Aside0.mk Q_BK164
      have HB := Aside0.mk Q_HB
      have hs2_ : w'.cell? ⟨ad171.block, ad171.off + 2, none⟩ = some (.int .i64 (rd (rd_L3 l1 a2) 2)) := ((HB.out.cell (World.block_lt_of_cell? w _ hw179_0)).trans hw179_0)
      refine value_ (w1 := w') (v := .pointer (some (ad171.add 2))) (by rfl) rfl ?_ ?_
      ·go_simp
       (try simp only [i64_w])
       try rfl
      refine hK.out _ _ ⟨v174, adz_v174, m12_, (by rw [ha.out]; exact putSel_upk 17 hbq_ rfl rfl rfl), Q_BK164, Q_HB, Q_HO175, Q_HA_HO175, Q_X12_⟩
     refine steps_cons ?_ ?_
     ·rintro b a w' ⟨v174, adz_v174, m12_, ha, Q_BK164, Q_HB, Q_HO175, Q_HA_HO175, Q_X12_⟩ hbq_ hon hoff
      refine ⟨_, rfl, fun K hK => ?_⟩
      have e92 : a.tmps[92]? = some (.pointer (some (ad171.add 2))) := by rw [ha]; exact putSel_on (e := (27, 92, .pointer (some (ad171.add 2)))) 17 rfl rfl (hon 27 (by kernel_rfl)) rfl
      replace ha := Aside0.mk ha
      have BK164 := Aside0.mk Q_BK164
      have HB := Aside0.mk Q_HB
      have hs2_ : w'.cell? ⟨ad171.block, ad171.off + 2, none⟩ = some (.int .i64 (rd (rd_L3 l1 a2) 2)) := ((HB.out.cell (World.block_lt_of_cell? w _ hw179_0)).trans hw179_0)
      refine value_ (w1 := w') (v := .int .i64 (rd (rd_L3 l1 a2) 2)) (by rfl) rfl ?_ ?_
      ·go_simp
       (try simp only [i64_w])
       try rfl
      refine hK.out _ _ ⟨v174, adz_v174, m12_, (by rw [ha.out]; exact putSel_upk 18 hbq_ rfl rfl rfl), Q_BK164, Q_HB, Q_HO175, Q_HA_HO175, Q_X12_⟩
     refine steps_cons ?_ ?_
     ·rintro b a w' ⟨v174, adz_v174, m12_, ha, Q_BK164, Q_HB, Q_HO175, Q_HA_HO175, Q_X12_⟩ hbq_ hon hoff
      refine ⟨_, rfl, fun K hK => ?_⟩
      have e89 : a.tmps[89]? = some (.slice (some ad162) l0.length c0) := by rw [ha]; exact (putSel_off rfl).trans rfl
      have e90 : a.tmps[90]? = some (.slice (some ad163) l1.length c1) := by rw [ha]; exact (putSel_off rfl).trans rfl
      have e93 : a.tmps[93]? = some (.int .i64 (rd (rd_L3 l1 a2) 2)) := by rw [ha]; exact putSel_on (e := (28, 93, .int .i64 (rd (rd_L3 l1 a2) 2))) 18 rfl rfl (hon 28 (by kernel_rfl)) rfl
      replace ha := Aside0.mk ha
      have BK164 := Aside0.mk Q_BK164
      have HB := Aside0.mk Q_HB
      refine goes_ Tryd.func18 (by kernel_rfl) rfl #[.slice (some ad162) l0.length c0, .slice (some ad163) l1.length c1, .int .i64 (rd (rd_L3 l1 a2) 2), .int .i64 0] (by rfl) rfl rfl (by first | (simp only [List.map_toArray, List.map_cons, List.map_nil, Act.eval, Array.getD_eq_getD_getElem?, Option.getD_some, e89, e90, e93]; done) | (simp only [List.map_toArray, List.map_cons, List.map_nil, Act.eval, Array.getD_eq_getD_getElem?, Option.getD_some, e89, e90, e93]; rfl)) ?_
      with_reducible refine (ih k (by omega) _ _ l0 _ _ l1 (rd (rd_L3 l1 a2) 2) 0 t180 _ ?side1 ?side2 ?side3 ?side4 A70.out).mono ?_
      (case side1 => exact Kd.C_w HR0 HB)
      (case side2 => exact HC0.out)
      (case side3 => exact Kd.C_w HR1 HB)
      (case side4 => exact HC1.out)
      rintro e w105 ⟨rfl, hb⟩
      refine ⟨_, rfl, ?_⟩
      have n0_ := Aside0.mk (blk_below (kp_ BK164) hb)
      have n1_ := Aside0.mk (below_step (hb_ HB) hb)
      have z_HO175 := fun (h0_ : b 8 = true) => (show Kd.R Kd.string 9 w105 w.heap.size (fun _ => True) v174 y173 from by first | exact (Kd.R_below (Kd.R_pp ((Q_HO175 h0_))) hb) | exact Kd.R_mono (Kd.R_below (Kd.R_pp ((Q_HO175 h0_))) hb) (fun _ h_ => by first | trivial | exact h_ | exact h_.1))
      clear BK164
      clear HB
      have BK164 := n0_
      have HB := n1_
      clear n0_ n1_
      refine hK.out _ _ ⟨v174, adz_v174, m12_, (by rw [ha.out]; exact putSel_upk 19 hbq_ rfl rfl rfl), (kp_ BK164), (hb_ HB), z_HO175, Q_HA_HO175, Q_X12_⟩
     refine steps_cons ?_ ?_
     ·rintro b a w' ⟨v174, adz_v174, m12_, ha, Q_BK164, Q_HB, Q_HO175, Q_HA_HO175, Q_X12_⟩ hbq_ hon hoff
      refine ⟨_, rfl, fun K hK => ?_⟩
      have e88 : a.tmps[88]? = some (.string (((((((⟨#[105, 102, 32]⟩ : ByteArray) ++ t172) ++ (⟨#[32]⟩ : ByteArray)) ++ (rdOf ByteArray.empty y173 (ji60))) ++ (⟨#[32]⟩ : ByteArray)) ++ t178) ++ (⟨#[32, 116, 104, 101, 110, 32]⟩ : ByteArray))) := by rw [ha]; exact putSel_on (e := (23, 88, .string (((((((⟨#[105, 102, 32]⟩ : ByteArray) ++ t172) ++ (⟨#[32]⟩ : ByteArray)) ++ (rdOf ByteArray.empty y173 (ji60))) ++ (⟨#[32]⟩ : ByteArray)) ++ t178) ++ (⟨#[32, 116, 104, 101, 110, 32]⟩ : ByteArray)))) 16 rfl rfl (hon 23 (by kernel_rfl)) rfl
      have e94 : a.tmps[94]? = some (.string t180) := by rw [ha]; exact putSel_on (e := (29, 94, .string t180)) 19 rfl rfl (hon 29 (by kernel_rfl)) rfl
      replace ha := Aside0.mk ha
      have BK164 := Aside0.mk Q_BK164
      have HB := Aside0.mk Q_HB
      have HO175 := Aside0.mk (Q_HO175 (hon 8 (by kernel_rfl)))
      have HA_HO175 := Aside0.mk (Q_HA_HO175 (hon 8 (by kernel_rfl)))
      refine value_ (w1 := w') (v := .string ((((((((⟨#[105, 102, 32]⟩ : ByteArray) ++ t172) ++ (⟨#[32]⟩ : ByteArray)) ++ (rdOf ByteArray.empty y173 (ji60))) ++ (⟨#[32]⟩ : ByteArray)) ++ t178) ++ (⟨#[32, 116, 104, 101, 110, 32]⟩ : ByteArray)) ++ t180)) (by rfl) rfl ?_ ?_
      ·go_simp
       (try simp only [i64_w])
       try rfl
      refine hK.out _ _ ⟨v174, adz_v174, m12_, (by rw [ha.out]; exact putSel_upk 20 hbq_ rfl rfl rfl), Q_BK164, Q_HB, Q_HO175, Q_HA_HO175, Q_X12_⟩
     refine steps_cons ?_ ?_
     ·rintro b a w' ⟨v174, adz_v174, m12_, ha, Q_BK164, Q_HB, Q_HO175, Q_HA_HO175, Q_X12_⟩ hbq_ hon hoff
      refine ⟨_, rfl, fun K hK => ?_⟩
      have e95 : a.tmps[95]? = some (.string ((((((((⟨#[105, 102, 32]⟩ : ByteArray) ++ t172) ++ (⟨#[32]⟩ : ByteArray)) ++ (rdOf ByteArray.empty y173 (ji60))) ++ (⟨#[32]⟩ : ByteArray)) ++ t178) ++ (⟨#[32, 116, 104, 101, 110, 32]⟩ : ByteArray)) ++ t180)) := by rw [ha]; exact putSel_on (e := (30, 95, .string ((((((((⟨#[105, 102, 32]⟩ : ByteArray) ++ t172) ++ (⟨#[32]⟩ : ByteArray)) ++ (rdOf ByteArray.empty y173 (ji60))) ++ (⟨#[32]⟩ : ByteArray)) ++ t178) ++ (⟨#[32, 116, 104, 101, 110, 32]⟩ : ByteArray)) ++ t180))) 20 rfl rfl (hon 30 (by kernel_rfl)) rfl
      replace ha := Aside0.mk ha
      have BK164 := Aside0.mk Q_BK164
      have HB := Aside0.mk Q_HB
      have HO175 := Aside0.mk (Q_HO175 (hon 8 (by kernel_rfl)))
      have HA_HO175 := Aside0.mk (Q_HA_HO175 (hon 8 (by kernel_rfl)))
      refine value_ (w1 := w') (v := .string (((((((((⟨#[105, 102, 32]⟩ : ByteArray) ++ t172) ++ (⟨#[32]⟩ : ByteArray)) ++ (rdOf ByteArray.empty y173 (ji60))) ++ (⟨#[32]⟩ : ByteArray)) ++ t178) ++ (⟨#[32, 116, 104, 101, 110, 32]⟩ : ByteArray)) ++ t180) ++ (⟨#[32, 101, 108, 115, 101, 32]⟩ : ByteArray))) (by rfl) rfl ?_ ?_
      ·go_simp
       (try simp only [i64_w])
       try rfl
      refine hK.out _ _ ⟨v174, adz_v174, m12_, (by rw [ha.out]; exact putSel_upk 21 hbq_ rfl rfl rfl), Q_BK164, Q_HB, Q_HO175, Q_HA_HO175, Q_X12_⟩
     refine steps_cons ?_ ?_
     ·rintro b a w' ⟨v174, adz_v174, m12_, ha, Q_BK164, Q_HB, Q_HO175, Q_HA_HO175, Q_X12_⟩ hbq_ hon hoff
      refine ⟨_, rfl, fun K hK => ?_⟩
      have e99 : a.tmps[99]? = some (.slice (some ad171) (rd_L3 l1 a2).length c163_0) := by rw [ha]; exact (putSel_off rfl).trans rfl
      replace ha := Aside0.mk ha
      have BK164 := Aside0.mk Q_BK164
      have HB := Aside0.mk Q_HB
      have hs3_ : w'.cell? ⟨ad171.block, ad171.off + 3, none⟩ = some (.int .i64 (rd (rd_L3 l1 a2) 3)) := ((HB.out.cell (World.block_lt_of_cell? w _ hw181_0)).trans hw181_0)
      refine value_ (w1 := w') (v := .pointer (some (ad171.add 3))) (by rfl) rfl ?_ ?_
      ·go_simp
       (try simp only [i64_w])
       try rfl
      refine hK.out _ _ ⟨v174, adz_v174, m12_, (by rw [ha.out]; exact putSel_upk 22 hbq_ rfl rfl rfl), Q_BK164, Q_HB, Q_HO175, Q_HA_HO175, Q_X12_⟩
     refine steps_cons ?_ ?_
     ·rintro b a w' ⟨v174, adz_v174, m12_, ha, Q_BK164, Q_HB, Q_HO175, Q_HA_HO175, Q_X12_⟩ hbq_ hon hoff
      refine ⟨_, rfl, fun K hK => ?_⟩
      have e100 : a.tmps[100]? = some (.pointer (some (ad171.add 3))) := by rw [ha]; exact putSel_on (e := (35, 100, .pointer (some (ad171.add 3)))) 22 rfl rfl (hon 35 (by kernel_rfl)) rfl
      replace ha := Aside0.mk ha
      have BK164 := Aside0.mk Q_BK164
      have HB := Aside0.mk Q_HB
      have hs3_ : w'.cell? ⟨ad171.block, ad171.off + 3, none⟩ = some (.int .i64 (rd (rd_L3 l1 a2) 3)) := ((HB.out.cell (World.block_lt_of_cell? w _ hw181_0)).trans hw181_0)
      refine value_ (w1 := w') (v := .int .i64 (rd (rd_L3 l1 a2) 3)) (by rfl) rfl ?_ ?_
      ·go_simp
       (try simp only [i64_w])
       try rfl
      refine hK.out _ _ ⟨v174, adz_v174, m12_, (by rw [ha.out]; exact putSel_upk 23 hbq_ rfl rfl rfl), Q_BK164, Q_HB, Q_HO175, Q_HA_HO175, Q_X12_⟩
     refine steps_cons ?_ ?_
     ·rintro b a w' ⟨v174, adz_v174, m12_, ha, Q_BK164, Q_HB, Q_HO175, Q_HA_HO175, Q_X12_⟩ hbq_ hon hoff
      refine ⟨_, rfl, fun K hK => ?_⟩
      have e97 : a.tmps[97]? = some (.slice (some ad162) l0.length c0) := by rw [ha]; exact (putSel_off rfl).trans rfl
      have e98 : a.tmps[98]? = some (.slice (some ad163) l1.length c1) := by rw [ha]; exact (putSel_off rfl).trans rfl
      have e101 : a.tmps[101]? = some (.int .i64 (rd (rd_L3 l1 a2) 3)) := by rw [ha]; exact putSel_on (e := (36, 101, .int .i64 (rd (rd_L3 l1 a2) 3))) 23 rfl rfl (hon 36 (by kernel_rfl)) rfl
      replace ha := Aside0.mk ha
      have BK164 := Aside0.mk Q_BK164
      have HB := Aside0.mk Q_HB
      refine goes_ Tryd.func18 (by kernel_rfl) rfl #[.slice (some ad162) l0.length c0, .slice (some ad163) l1.length c1, .int .i64 (rd (rd_L3 l1 a2) 3), .int .i64 0] (by rfl) rfl rfl (by first | (simp only [List.map_toArray, List.map_cons, List.map_nil, Act.eval, Array.getD_eq_getD_getElem?, Option.getD_some, e97, e98, e101]; done) | (simp only [List.map_toArray, List.map_cons, List.map_nil, Act.eval, Array.getD_eq_getD_getElem?, Option.getD_some, e97, e98, e101]; rfl)) ?_
      with_reducible refine (ih k (by omega) _ _ l0 _ _ l1 (rd (rd_L3 l1 a2) 3) 0 t182 _ ?side1 ?side2 ?side3 ?side4 A74.out).mono ?_
      (case side1 => exact Kd.C_w HR0 HB)
      (case side2 => exact HC0.out)
      (case side3 => exact Kd.C_w HR1 HB)
      (case side4 => exact HC1.out)
      rintro e w106 ⟨rfl, hb⟩
      refine ⟨_, rfl, ?_⟩
      have n0_ := Aside0.mk (blk_below (kp_ BK164) hb)
      have n1_ := Aside0.mk (below_step (hb_ HB) hb)
      have z_HO175 := fun (h0_ : b 8 = true) => (show Kd.R Kd.string 9 w106 w.heap.size (fun _ => True) v174 y173 from by first | exact (Kd.R_below (Kd.R_pp ((Q_HO175 h0_))) hb) | exact Kd.R_mono (Kd.R_below (Kd.R_pp ((Q_HO175 h0_))) hb) (fun _ h_ => by first | trivial | exact h_ | exact h_.1))
      clear BK164
      clear HB
      have BK164 := n0_
      have HB := n1_
      clear n0_ n1_
      refine hK.out _ _ ⟨v174, adz_v174, m12_, (by rw [ha.out]; exact putSel_upk 24 hbq_ rfl rfl rfl), (kp_ BK164), (hb_ HB), z_HO175, Q_HA_HO175, Q_X12_⟩
     refine steps_cons ?_ ?_
     ·rintro b a w' ⟨v174, adz_v174, m12_, ha, Q_BK164, Q_HB, Q_HO175, Q_HA_HO175, Q_X12_⟩ hbq_ hon hoff
      refine ⟨_, rfl, fun K hK => ?_⟩
      have e96 : a.tmps[96]? = some (.string (((((((((⟨#[105, 102, 32]⟩ : ByteArray) ++ t172) ++ (⟨#[32]⟩ : ByteArray)) ++ (rdOf ByteArray.empty y173 (ji60))) ++ (⟨#[32]⟩ : ByteArray)) ++ t178) ++ (⟨#[32, 116, 104, 101, 110, 32]⟩ : ByteArray)) ++ t180) ++ (⟨#[32, 101, 108, 115, 101, 32]⟩ : ByteArray))) := by rw [ha]; exact putSel_on (e := (31, 96, .string (((((((((⟨#[105, 102, 32]⟩ : ByteArray) ++ t172) ++ (⟨#[32]⟩ : ByteArray)) ++ (rdOf ByteArray.empty y173 (ji60))) ++ (⟨#[32]⟩ : ByteArray)) ++ t178) ++ (⟨#[32, 116, 104, 101, 110, 32]⟩ : ByteArray)) ++ t180) ++ (⟨#[32, 101, 108, 115, 101, 32]⟩ : ByteArray)))) 21 rfl rfl (hon 31 (by kernel_rfl)) rfl
      have e102 : a.tmps[102]? = some (.string t182) := by rw [ha]; exact putSel_on (e := (37, 102, .string t182)) 24 rfl rfl (hon 37 (by kernel_rfl)) rfl
      replace ha := Aside0.mk ha
      have BK164 := Aside0.mk Q_BK164
      have HB := Aside0.mk Q_HB
      have HO175 := Aside0.mk (Q_HO175 (hon 8 (by kernel_rfl)))
      have HA_HO175 := Aside0.mk (Q_HA_HO175 (hon 8 (by kernel_rfl)))
      refine value_ (w1 := w') (v := .string ((((((((((⟨#[105, 102, 32]⟩ : ByteArray) ++ t172) ++ (⟨#[32]⟩ : ByteArray)) ++ (rdOf ByteArray.empty y173 (ji60))) ++ (⟨#[32]⟩ : ByteArray)) ++ t178) ++ (⟨#[32, 116, 104, 101, 110, 32]⟩ : ByteArray)) ++ t180) ++ (⟨#[32, 101, 108, 115, 101, 32]⟩ : ByteArray)) ++ t182)) (by rfl) rfl ?_ ?_
      ·go_simp
       (try simp only [i64_w])
       try rfl
      refine hK.out _ _ ⟨v174, adz_v174, m12_, (by rw [ha.out]; exact putSel_upk 25 hbq_ rfl rfl rfl), Q_BK164, Q_HB, Q_HO175, Q_HA_HO175, Q_X12_⟩
     refine steps_cons ?_ ?_
     ·rintro b a w' ⟨v174, adz_v174, m12_, ha, Q_BK164, Q_HB, Q_HO175, Q_HA_HO175, Q_X12_⟩ hbq_ hon hoff
      refine ⟨_, rfl, fun K hK => ?_⟩
      have e103 : a.tmps[103]? = some (.string ((((((((((⟨#[105, 102, 32]⟩ : ByteArray) ++ t172) ++ (⟨#[32]⟩ : ByteArray)) ++ (rdOf ByteArray.empty y173 (ji60))) ++ (⟨#[32]⟩ : ByteArray)) ++ t178) ++ (⟨#[32, 116, 104, 101, 110, 32]⟩ : ByteArray)) ++ t180) ++ (⟨#[32, 101, 108, 115, 101, 32]⟩ : ByteArray)) ++ t182)) := by rw [ha]; exact putSel_on (e := (38, 103, .string ((((((((((⟨#[105, 102, 32]⟩ : ByteArray) ++ t172) ++ (⟨#[32]⟩ : ByteArray)) ++ (rdOf ByteArray.empty y173 (ji60))) ++ (⟨#[32]⟩ : ByteArray)) ++ t178) ++ (⟨#[32, 116, 104, 101, 110, 32]⟩ : ByteArray)) ++ t180) ++ (⟨#[32, 101, 108, 115, 101, 32]⟩ : ByteArray)) ++ t182))) 25 rfl rfl (hon 38 (by kernel_rfl)) rfl
      replace ha := Aside0.mk ha
      have BK164 := Aside0.mk Q_BK164
      have HB := Aside0.mk Q_HB
      have HO175 := Aside0.mk (Q_HO175 (hon 8 (by kernel_rfl)))
      have HA_HO175 := Aside0.mk (Q_HA_HO175 (hon 8 (by kernel_rfl)))
      refine value_ (w1 := w') (v := .string ((((((((((⟨#[105, 102, 32]⟩ : ByteArray) ++ t172) ++ (⟨#[32]⟩ : ByteArray)) ++ (rdOf ByteArray.empty y173 (ji60))) ++ (⟨#[32]⟩ : ByteArray)) ++ t178) ++ (⟨#[32, 116, 104, 101, 110, 32]⟩ : ByteArray)) ++ t180) ++ (⟨#[32, 101, 108, 115, 101, 32]⟩ : ByteArray)) ++ t182)) (by rfl) rfl ?_ ?_
      ·go_simp
       (try simp only [i64_w])
       try rfl
      refine hK.out _ _ ⟨v174, adz_v174, m12_, (by rw [ha.out]; exact putSel_upk 26 hbq_ rfl rfl rfl), Q_BK164, Q_HB, Q_HO175, Q_HA_HO175, Q_X12_⟩
     exact steps_nil
     )
     exact p10_
    rintro b a w109 hall ⟨v174, adz_v174, m12_, ha, Q_BK164, Q_HB, Q_HO175, Q_HA_HO175, Q_X12_⟩
    clear BK164 HB
    have hb3_ := hall 3 (by kernel_rfl)
    have hb4_ := hall 4 (by kernel_rfl)
    have hb5_ := hall 5 (by kernel_rfl)
    have hb6_ := hall 6 (by kernel_rfl)
    have hb7_ := hall 7 (by kernel_rfl)
    have hb8_ := hall 8 (by kernel_rfl)
    have hb10_ := hall 10 (by kernel_rfl)
    have hb11_ := hall 11 (by kernel_rfl)
    have hb12_ := hall 12 (by kernel_rfl)
    have hb13_ := hall 13 (by kernel_rfl)
    have hb14_ := hall 14 (by kernel_rfl)
    have hb15_ := hall 15 (by kernel_rfl)
    have hb19_ := hall 19 (by kernel_rfl)
    have hb20_ := hall 20 (by kernel_rfl)
    have hb21_ := hall 21 (by kernel_rfl)
    have hb22_ := hall 22 (by kernel_rfl)
    have hb23_ := hall 23 (by kernel_rfl)
    have hb27_ := hall 27 (by kernel_rfl)
    have hb28_ := hall 28 (by kernel_rfl)
    have hb29_ := hall 29 (by kernel_rfl)
    have hb30_ := hall 30 (by kernel_rfl)
    have hb31_ := hall 31 (by kernel_rfl)
    have hb35_ := hall 35 (by kernel_rfl)
    have hb36_ := hall 36 (by kernel_rfl)
    have hb37_ := hall 37 (by kernel_rfl)
    have hb38_ := hall 38 (by kernel_rfl)
    have hb39_ := hall 39 (by kernel_rfl)
    subst ha
    obtain rfl := Q_X12_ hb12_
    simp only [putSel, hb3_, hb4_, hb5_, hb6_, hb7_, hb8_, hb10_, hb11_, hb12_, hb13_, hb14_, hb15_, hb19_, hb20_, hb21_, hb22_, hb23_, hb27_, hb28_, hb29_, hb30_, hb31_, hb35_, hb36_, hb37_, hb38_, hb39_, if_true, Act.put, List.setIfInBounds_toArray, List.set_cons_zero, List.set_cons_succ]
    have BK164 := Aside0.mk Q_BK164
    clear Q_BK164
    have HB := Aside0.mk Q_HB
    clear Q_HB
    have HO175 := Aside0.mk (Q_HO175 hb8_)
    clear Q_HO175
    have HA_HO175 := Aside0.mk (Q_HA_HO175 hb8_)
    clear Q_HA_HO175
    clear hall hb3_ hb4_ hb5_ hb6_ hb7_ hb8_ hb10_ hb11_ hb12_ hb13_ hb14_ hb15_ hb19_ hb20_ hb21_ hb22_ hb23_ hb27_ hb28_ hb29_ hb30_ hb31_ hb35_ hb36_ hb37_ hb38_ hb39_
    obtain ⟨co110, eo110⟩ := HA_HO175.out
    clear HA_HO175
    subst eo110
    try go_wp2
    go_ret
    exact ⟨by first | rfl | (simp [errW_none, errW_some] <;> rfl) | (simp only [← hji60]; first | rfl | (simp [errW_none, errW_some] <;> rfl)) | (simp [*, errW_none, errW_some] <;> rfl), hb_ HB⟩
    )
    exact p9_
   ·rw [if_neg c71] at H
    exact absurd H (by simp)
   )
   exact p6_
  ·rw [if_neg c61] at H
   exact absurd H (by simp)
  )
  exact p5_
 rw [if_neg c55] at H
 have c55b0 : (t165 == 0) = false := beq_eq_false_iff_ne.mpr c55
 have c55b1 : (t165 != 0) = true := bne_iff_ne.mpr c55
 by_cases c111 : 0 < ((rd_L3 l1 a2).length : Int)
 case neg => rw [if_neg c111] at H; exact absurd H (by simp)
 rw [if_pos c111] at H
 have c111b0 := decide_eq_true c111
 have c111b1 : decide (0 < (rd_L3 l1 a2).length) = true := decide_eq_true (by omega)
 clear c111
 replace H := Option.bind_eq_some_iff.mp H
 obtain ⟨t184, A1120, H⟩ := H
 try dsimp only at H
 have A112 := Aside0.mk A1120
 clear A1120
 by_cases c113 : t184.size + 1 ≤ 9223372036854775807
 case neg => rw [if_neg c113] at H; exact absurd H (by simp)
 refine ?z11_
 let rec p11_ : type_of% ?z11_ := by(
 rw [if_pos c113] at H
 have c113b0 := eq_true c113
 have c113b1 := decide_eq_true c113
 try have c113b2 : (9223372036854775807 < t184.size + 1) = False := eq_false (Nat.not_lt.2 c113)
 obtain ⟨y185, hy185⟩ : ∃ y_ : List ByteArray, y_ = (([(⟨#[43]⟩ : ByteArray), (⟨#[45]⟩ : ByteArray), (⟨#[42]⟩ : ByteArray), (⟨#[47]⟩ : ByteArray)] : List ByteArray)) := ⟨_, rfl⟩
 (try with_reducible replace H := (Option.bind_some _ _).symm.trans H); (try dsimp only at H); (try rw [← hy185] at H)
 have Ny185 := Aside0.mk hy185
 clear hy185
 obtain ⟨ji114, hji114⟩ : ∃ j_ : Int, (wrap64 (((rd_T33 l0 a2).f0) - 2)) = j_ := ⟨_, rfl⟩
 replace H : (if 0 ≤ (ji114) then (if (ji114) < (y185.length : Int) then (if (t184 ++ (⟨#[32]⟩ : ByteArray)).size + (rdOf ByteArray.empty y185 (ji114)).size ≤ 9223372036854775807 then (if ((t184 ++ (⟨#[32]⟩ : ByteArray)) ++ (rdOf ByteArray.empty y185 (ji114))).size + 1 ≤ 9223372036854775807 then (if 1 < ((rd_L3 l1 a2).length : Int) then ((spec_ruShow.f k l0 l1 (rd (rd_L3 l1 a2) 1) (wrap64 (t165 + 1))).bind fun t190 => (if (((t184 ++ (⟨#[32]⟩ : ByteArray)) ++ (rdOf ByteArray.empty y185 (ji114))) ++ (⟨#[32]⟩ : ByteArray)).size + t190.size ≤ 9223372036854775807 then (if t165 < a3 then (if 2 + ((((t184 ++ (⟨#[32]⟩ : ByteArray)) ++ (rdOf ByteArray.empty y185 (ji114))) ++ (⟨#[32]⟩ : ByteArray)) ++ t190).size ≤ 9223372036854775807 then (if ((⟨#[40, 32]⟩ : ByteArray) ++ ((((t184 ++ (⟨#[32]⟩ : ByteArray)) ++ (rdOf ByteArray.empty y185 (ji114))) ++ (⟨#[32]⟩ : ByteArray)) ++ t190)).size + 2 ≤ 9223372036854775807 then (some (((⟨#[40, 32]⟩ : ByteArray) ++ ((((t184 ++ (⟨#[32]⟩ : ByteArray)) ++ (rdOf ByteArray.empty y185 (ji114))) ++ (⟨#[32]⟩ : ByteArray)) ++ t190)) ++ (⟨#[32, 41]⟩ : ByteArray))) else (none)) else (none)) else (some ((((t184 ++ (⟨#[32]⟩ : ByteArray)) ++ (rdOf ByteArray.empty y185 (ji114))) ++ (⟨#[32]⟩ : ByteArray)) ++ t190))) else (none))) else (none)) else (none)) else (none)) else (none)) else (none)) = some r := by first | (rw [hji114] at H; exact H) | (simp only [hji114] at H ⊢; exact H)
 (try rw [hji114] at A8)
 (try rw [hji114] at A112)
 have hji114w : (IntKind.i64.wrap (((rd_T33 l0 a2).f0) - 2)) = ji114 := (i64_w _).trans hji114
 by_cases c115 : 0 ≤ (ji114)
 ·rw [if_pos c115] at H
  have c115b0 := decide_eq_true c115
  clear c115
  by_cases c116 : (ji114) < (y185.length : Int)
  case neg => rw [if_neg c116] at H; exact absurd H (by simp)
  rw [if_pos c116] at H
  have c116b0 := decide_eq_true c116
  clear c116
  by_cases c117 : (t184 ++ (⟨#[32]⟩ : ByteArray)).size + (rdOf ByteArray.empty y185 (ji114)).size ≤ 9223372036854775807
  case neg => rw [if_neg c117] at H; exact absurd H (by simp)
  rw [if_pos c117] at H
  have c117b0 := eq_true c117
  have c117b1 := decide_eq_true c117
  try have c117b2 : (9223372036854775807 < (t184 ++ (⟨#[32]⟩ : ByteArray)).size + (rdOf ByteArray.empty y185 (ji114)).size) = False := eq_false (Nat.not_lt.2 c117)
  have c117b3 : (9223372036854775807 < t184.size + 1 + (rdOf ByteArray.empty y185 (ji114)).size) = False := eq_false (Nat.not_lt.2 (by have h_ := c117; simp only [ByteArray.size_append] at h_; exact h_))
  by_cases c118 : ((t184 ++ (⟨#[32]⟩ : ByteArray)) ++ (rdOf ByteArray.empty y185 (ji114))).size + 1 ≤ 9223372036854775807
  case neg => rw [if_neg c118] at H; exact absurd H (by simp)
  rw [if_pos c118] at H
  have c118b0 := eq_true c118
  have c118b1 := decide_eq_true c118
  try have c118b2 : (9223372036854775807 < ((t184 ++ (⟨#[32]⟩ : ByteArray)) ++ (rdOf ByteArray.empty y185 (ji114))).size + 1) = False := eq_false (Nat.not_lt.2 c118)
  have c118b3 : (9223372036854775807 < t184.size + 1 + (rdOf ByteArray.empty y185 (ji114)).size + 1) = False := eq_false (Nat.not_lt.2 (by have h_ := c118; simp only [ByteArray.size_append] at h_; exact h_))
  by_cases c119 : 1 < ((rd_L3 l1 a2).length : Int)
  case neg => rw [if_neg c119] at H; exact absurd H (by simp)
  rw [if_pos c119] at H
  have c119b0 := decide_eq_true c119
  have c119b1 : decide (1 < (rd_L3 l1 a2).length) = true := decide_eq_true (by omega)
  clear c119
  replace H := Option.bind_eq_some_iff.mp H
  obtain ⟨t190, A1200, H⟩ := H
  try dsimp only at H
  have A120 := Aside0.mk A1200
  clear A1200
  by_cases c121 : (((t184 ++ (⟨#[32]⟩ : ByteArray)) ++ (rdOf ByteArray.empty y185 (ji114))) ++ (⟨#[32]⟩ : ByteArray)).size + t190.size ≤ 9223372036854775807
  case neg => rw [if_neg c121] at H; exact absurd H (by simp)
  rw [if_pos c121] at H
  have c121b0 := eq_true c121
  have c121b1 := decide_eq_true c121
  try have c121b2 : (9223372036854775807 < (((t184 ++ (⟨#[32]⟩ : ByteArray)) ++ (rdOf ByteArray.empty y185 (ji114))) ++ (⟨#[32]⟩ : ByteArray)).size + t190.size) = False := eq_false (Nat.not_lt.2 c121)
  have c121b3 : (9223372036854775807 < t184.size + 1 + (rdOf ByteArray.empty y185 (ji114)).size + 1 + t190.size) = False := eq_false (Nat.not_lt.2 (by have h_ := c121; simp only [ByteArray.size_append] at h_; exact h_))
  by_cases c122 : t165 < a3
  ·rw [if_pos c122] at H
   have c122b0 := decide_eq_true c122
   clear c122
   by_cases c123 : 2 + ((((t184 ++ (⟨#[32]⟩ : ByteArray)) ++ (rdOf ByteArray.empty y185 (ji114))) ++ (⟨#[32]⟩ : ByteArray)) ++ t190).size ≤ 9223372036854775807
   case neg => rw [if_neg c123] at H; exact absurd H (by simp)
   rw [if_pos c123] at H
   have c123b0 := eq_true c123
   have c123b1 := decide_eq_true c123
   try have c123b2 : (9223372036854775807 < 2 + ((((t184 ++ (⟨#[32]⟩ : ByteArray)) ++ (rdOf ByteArray.empty y185 (ji114))) ++ (⟨#[32]⟩ : ByteArray)) ++ t190).size) = False := eq_false (Nat.not_lt.2 c123)
   have c123b3 : (9223372036854775807 < 2 + (t184.size + 1 + (rdOf ByteArray.empty y185 (ji114)).size + 1 + t190.size)) = False := eq_false (Nat.not_lt.2 (by have h_ := c123; simp only [ByteArray.size_append] at h_; exact h_))
   by_cases c124 : ((⟨#[40, 32]⟩ : ByteArray) ++ ((((t184 ++ (⟨#[32]⟩ : ByteArray)) ++ (rdOf ByteArray.empty y185 (ji114))) ++ (⟨#[32]⟩ : ByteArray)) ++ t190)).size + 2 ≤ 9223372036854775807
   case neg => rw [if_neg c124] at H; exact absurd H (by simp)
   refine ?z12_
   let rec p12_ : type_of% ?z12_ := by(
   rw [if_pos c124] at H
   have c124b0 := eq_true c124
   have c124b1 := decide_eq_true c124
   try have c124b2 : (9223372036854775807 < ((⟨#[40, 32]⟩ : ByteArray) ++ ((((t184 ++ (⟨#[32]⟩ : ByteArray)) ++ (rdOf ByteArray.empty y185 (ji114))) ++ (⟨#[32]⟩ : ByteArray)) ++ t190)).size + 2) = False := eq_false (Nat.not_lt.2 c124)
   have c124b3 : (9223372036854775807 < 2 + (t184.size + 1 + (rdOf ByteArray.empty y185 (ji114)).size + 1 + t190.size) + 2) = False := eq_false (Nat.not_lt.2 (by have h_ := c124; simp only [ByteArray.size_append] at h_; exact h_))
   obtain rfl := Option.some.inj H
   go_enter Tryd.func18, Tryd.ntmps18
   try go_wp2
   replace HB := Aside0.mk (below_drew1 HB.out)
   have p162 : 0 ≤ (a2 : Int) := of_decide_eq_true (by first | (with_reducible assumption) | assumption)
   have q162 : a2 < (l0.length : Int) := of_decide_eq_true (by first | (with_reducible assumption) | assumption)
   obtain ⟨ad162, e162, hx162_0, hx162_1⟩ := at_T33 HR0.out a2 p162 q162
   have hw162_1 := hx162_1
   have hw162_0 := hx162_0
   cases e162
   replace hx162_0 := hc_ HB hx162_0
   replace hx162_1 := hc_ HB hx162_1
   replace p162 := eq_true p162
   replace q162 := eq_true q162
   have p163 : 0 ≤ (a2 : Int) := of_decide_eq_true (by first | (with_reducible assumption) | assumption)
   have q163 : a2 < (l1.length : Int) := of_decide_eq_true (by first | (with_reducible assumption) | assumption)
   obtain ⟨ad163, A163_0, c163_0, e163, hx163_0, hl163_0, hi163_0⟩ := at_L3 HR1.out a2 p163 q163
   have hw163_0 := hx163_0
   cases e163
   replace hx163_0 := hc_ HB hx163_0
   have HR163_0 := Aside0.mk hi163_0
   have HC163_0 := Aside0.mk hl163_0
   clear hi163_0 hl163_0
   replace p163 := eq_true p163
   replace q163 := eq_true q163
   refine start_ (n := 11) (S := fun w' => w'.cell? (ad162.add ((a2).toNat * 2)) = some (.int .i64 ((rd_T33 l0 a2).f0)) ∧ w'.cell? ⟨(ad162.add ((a2).toNat * 2)).block, (ad162.add ((a2).toNat * 2)).off + 1, none⟩ = some (.int .i64 ((rd_T33 l0 a2).f1)) ∧ w'.cell? (ad163.add (a2).toNat) = some (.slice A163_0 (rd_L3 l1 a2).length c163_0)) (ds := []) (bb 11 0) (by kernel_rfl) rfl rfl ⟨((HB.out.cell (World.block_lt_of_cell? w _ hw162_0)).trans hw162_0), ((HB.out.cell (World.block_lt_of_cell? w _ hw162_1)).trans hw162_1), ((HB.out.cell (World.block_lt_of_cell? w _ hw163_0)).trans hw163_0)⟩ (fun hHeld => ?_); refine with_tabW spec_ruShow.tab1 spec_ruShow.bits1 (fun HT_ HW_ => ?_)
   generalize w.drew = w125 at HB HR163_0 hx162_0 hx162_1 hx163_0 hHeld ⊢
   refine pl_ HT_ 0 (some 13) (bb 11 1) (h := ?_)
   refine pl_ HT_ 1 (some 14) (bb 11 3) (h := ?_)
   refine pl_ HT_ 2 (some 15) (bb 11 7) (h := ?_)
   refine pl_ HT_ 4 (some 17) (bb 11 23) (h := ?_)
   refine pl_ HT_ 5 (some 18) (bb 11 55) (h := ?_)
   refine pl_ HT_ 6 (some 19) (bb 11 119) (h := ?_)
   refine tk_ HT_ HW_ hHeld 3 (some 16) (bb 11 127) (h := ?_)
   refine tk_ HT_ HW_ hHeld 7 (some 20) (bb 11 255) (h := ?_)
   refine one_ (i := 8) (N := some 9) (bb 11 511) rfl rfl (one_of HT_.out (by kernel_rfl)) (by decide) (fun K hK => ?_)
   refine box_step ?hg (N := 9) ?hd (cs := #[.int .i64 0, .int .i64 0]) (t := 33) ?hr ?_; (case hd => rfl); (case hg => rfl); (case hr => first | (go_simp; done) | (go_simp; rfl))
   intro gb164 hg w126 hbox hb
   have n0_ := Aside0.mk (below_step (hb_ HB) hb)
   have n1_ := Aside0.mk (hbox)
   have n2_ := Aside0.mk ((by rw [hg]; exact (below_size (hb_ HB)) : w.heap.size ≤ gb164))
   have n3_ := Aside0.mk ((by rw [hg]; exact (below_size (hb_ HB)) : w.heap.size ≤ gb164))
   clear HB
   have HB := n0_
   have BK164 := n1_
   have GW164 := n2_
   have GE164 := n3_
   clear n0_ n1_ n2_ n3_
   clear hb hbox hg
   refine hK.out _ _ ⟨((HB.out.cell (World.block_lt_of_cell? w _ hw162_0)).trans hw162_0), ((HB.out.cell (World.block_lt_of_cell? w _ hw162_1)).trans hw162_1), ((HB.out.cell (World.block_lt_of_cell? w _ hw163_0)).trans hw163_0)⟩ (fun hHeld => ?_)
   clear hK K
   refine nm_ (some 9) (h := ?_)
   refine one_ (i := 9) (N := none) (bb 11 1023) rfl rfl (one_of HT_.out (by kernel_rfl)) (by decide) (fun K hK => ?_)
   have hs127 : w126.cell? ⟨gb164, 0, none⟩ = some (.int .i64 0) := (blk_cell BK164.out 0).trans rfl
   have hfs127 := blk_frozen BK164.out 0
   have hs128 : w126.cell? ⟨gb164, 1, none⟩ = some (.int .i64 0) := (blk_cell BK164.out 1).trans rfl
   have hfs128 := blk_frozen BK164.out 1
   refine skip_ (w1 := ?_) (by rfl) rfl ?_ ?_
   rotate_left
   ·go_simp
    rfl
   refine hK.out _ _ ⟨((cell_far (p := ⟨gb164, _, none⟩) (by first | exact Nat.ne_of_lt (Nat.lt_of_lt_of_le (by have := World.block_lt_of_cell? _ _ hw162_0; first | rwa [add_block] at this | exact this) GW164.out) | (rw [add_block]; exact Nat.ne_of_lt (Nat.lt_of_lt_of_le (by have := World.block_lt_of_cell? _ _ hw162_0; first | rwa [add_block] at this | exact this) GW164.out)) | (show (Addr.add _ _).block ≠ _; rw [add_block]; exact Nat.ne_of_lt (Nat.lt_of_lt_of_le (by have := World.block_lt_of_cell? _ _ hw162_0; first | rwa [add_block] at this | exact this) GW164.out)) | (dsimp only; exact Nat.ne_of_lt (Nat.lt_of_lt_of_le (by have := World.block_lt_of_cell? _ _ hw162_0; first | rwa [add_block] at this | exact this) GW164.out))) _).trans (((cell_far (p := ⟨gb164, _, none⟩) (by first | exact Nat.ne_of_lt (Nat.lt_of_lt_of_le (by have := World.block_lt_of_cell? _ _ hw162_0; first | rwa [add_block] at this | exact this) GW164.out) | (rw [add_block]; exact Nat.ne_of_lt (Nat.lt_of_lt_of_le (by have := World.block_lt_of_cell? _ _ hw162_0; first | rwa [add_block] at this | exact this) GW164.out)) | (show (Addr.add _ _).block ≠ _; rw [add_block]; exact Nat.ne_of_lt (Nat.lt_of_lt_of_le (by have := World.block_lt_of_cell? _ _ hw162_0; first | rwa [add_block] at this | exact this) GW164.out)) | (dsimp only; exact Nat.ne_of_lt (Nat.lt_of_lt_of_le (by have := World.block_lt_of_cell? _ _ hw162_0; first | rwa [add_block] at this | exact this) GW164.out))) _).trans (hHeld.1)))), ((cell_far (p := ⟨gb164, _, none⟩) (by first | exact Nat.ne_of_lt (Nat.lt_of_lt_of_le (by have := World.block_lt_of_cell? _ _ hw162_1; first | rwa [add_block] at this | exact this) GW164.out) | (rw [add_block]; exact Nat.ne_of_lt (Nat.lt_of_lt_of_le (by have := World.block_lt_of_cell? _ _ hw162_1; first | rwa [add_block] at this | exact this) GW164.out)) | (show (Addr.add _ _).block ≠ _; rw [add_block]; exact Nat.ne_of_lt (Nat.lt_of_lt_of_le (by have := World.block_lt_of_cell? _ _ hw162_1; first | rwa [add_block] at this | exact this) GW164.out)) | (dsimp only; exact Nat.ne_of_lt (Nat.lt_of_lt_of_le (by have := World.block_lt_of_cell? _ _ hw162_1; first | rwa [add_block] at this | exact this) GW164.out))) _).trans (((cell_far (p := ⟨gb164, _, none⟩) (by first | exact Nat.ne_of_lt (Nat.lt_of_lt_of_le (by have := World.block_lt_of_cell? _ _ hw162_1; first | rwa [add_block] at this | exact this) GW164.out) | (rw [add_block]; exact Nat.ne_of_lt (Nat.lt_of_lt_of_le (by have := World.block_lt_of_cell? _ _ hw162_1; first | rwa [add_block] at this | exact this) GW164.out)) | (show (Addr.add _ _).block ≠ _; rw [add_block]; exact Nat.ne_of_lt (Nat.lt_of_lt_of_le (by have := World.block_lt_of_cell? _ _ hw162_1; first | rwa [add_block] at this | exact this) GW164.out)) | (dsimp only; exact Nat.ne_of_lt (Nat.lt_of_lt_of_le (by have := World.block_lt_of_cell? _ _ hw162_1; first | rwa [add_block] at this | exact this) GW164.out))) _).trans (hHeld.2.1)))), ((cell_far (p := ⟨gb164, _, none⟩) (by first | exact Nat.ne_of_lt (Nat.lt_of_lt_of_le (by have := World.block_lt_of_cell? _ _ hw163_0; first | rwa [add_block] at this | exact this) GW164.out) | (rw [add_block]; exact Nat.ne_of_lt (Nat.lt_of_lt_of_le (by have := World.block_lt_of_cell? _ _ hw163_0; first | rwa [add_block] at this | exact this) GW164.out)) | (show (Addr.add _ _).block ≠ _; rw [add_block]; exact Nat.ne_of_lt (Nat.lt_of_lt_of_le (by have := World.block_lt_of_cell? _ _ hw163_0; first | rwa [add_block] at this | exact this) GW164.out)) | (dsimp only; exact Nat.ne_of_lt (Nat.lt_of_lt_of_le (by have := World.block_lt_of_cell? _ _ hw163_0; first | rwa [add_block] at this | exact this) GW164.out))) _).trans (((cell_far (p := ⟨gb164, _, none⟩) (by first | exact Nat.ne_of_lt (Nat.lt_of_lt_of_le (by have := World.block_lt_of_cell? _ _ hw163_0; first | rwa [add_block] at this | exact this) GW164.out) | (rw [add_block]; exact Nat.ne_of_lt (Nat.lt_of_lt_of_le (by have := World.block_lt_of_cell? _ _ hw163_0; first | rwa [add_block] at this | exact this) GW164.out)) | (show (Addr.add _ _).block ≠ _; rw [add_block]; exact Nat.ne_of_lt (Nat.lt_of_lt_of_le (by have := World.block_lt_of_cell? _ _ hw163_0; first | rwa [add_block] at this | exact this) GW164.out)) | (dsimp only; exact Nat.ne_of_lt (Nat.lt_of_lt_of_le (by have := World.block_lt_of_cell? _ _ hw163_0; first | rwa [add_block] at this | exact this) GW164.out))) _).trans (hHeld.2.2))))⟩ (fun hHeld => ?_)
   clear hK K
   refine pl_ HT_ 10 (some 10) (bb 11 2047) (h := ?_)
   refine done_ (done_of HT_.out (by kernel_rfl)) ?_
   obtain ⟨hcz129_0, hcz129_1, hfz129_0, hfz129_1⟩ := bx2 BK164
   try go_wp2_with (first | ((with_reducible refine gate_callee (f := 26) rfl ?_); refine gl_ (some 23) Tryd.func26 #[.int .i64 ((rd_T33 l0 a2).f0)] rfl rfl rfl ?_; (with_reducible refine (spec_ruLevel.calls ((rd_T33 l0 a2).f0) t165 _ A8.out).mono ?_); rintro e w' ⟨rfl, ⟨nd, rfl⟩⟩; refine ⟨_, rfl, ?_⟩))
   have pi188 : (0 ≤ ((ji114) : Int)) = True := eq_true (of_decide_eq_true (by first | (with_reducible assumption) | assumption))
   have qi188 : ((ji114) < (y185.length : Int)) = True := eq_true (of_decide_eq_true (by first | (with_reducible assumption) | assumption))
   have n0_ : Aside0 (((w126.setCell ⟨gb164, 0, none⟩ (.int .i64 ((rd_T33 l0 a2).f0))).setCell ⟨gb164, 1, none⟩ (.int .i64 ((rd_T33 l0 a2).f1))).heap[gb164]? = some (.cells #[.int .i64 ((rd_T33 l0 a2).f0), .int .i64 ((rd_T33 l0 a2).f1)] 33 (0, 0))) := ⟨kpq_ (kputs BK164 [(0, _), (1, _)])⟩
   have n1_ : Aside0 (Below w.heap.size w ((w126.setCell ⟨gb164, 0, none⟩ (.int .i64 ((rd_T33 l0 a2).f0))).setCell ⟨gb164, 1, none⟩ (.int .i64 ((rd_T33 l0 a2).f1)))) := ⟨hb_ HB⟩
   generalize ((w126.setCell ⟨gb164, 0, none⟩ (.int .i64 ((rd_T33 l0 a2).f0))).setCell ⟨gb164, 1, none⟩ (.int .i64 ((rd_T33 l0 a2).f1))) = w130 at n0_ n1_ ⊢
   have BK164 := n0_
   have HB := n1_
   clear n0_ n1_
   (try (rw [drewN_self w130]; generalize hq_ : World.drewN w130 _ = w130; have n0_ : Aside0 (w130.heap[gb164]? = some (.cells #[.int .i64 ((rd_T33 l0 a2).f0), .int .i64 ((rd_T33 l0 a2).f1)] 33 (0, 0))) := ⟨by rw [← hq_]; exact (kp_ BK164)⟩; have n1_ : Aside0 (Below w.heap.size w w130) := ⟨by rw [← hq_]; exact (hb_ HB)⟩; clear BK164 HB hq_; have BK164 := n0_; have HB := n1_; clear n0_ n1_))
   replace BK164 := Aside0.mk (blk_drew BK164.out)
   replace HB := Aside0.mk (below_drew1 HB.out)
   have p183 : 0 ≤ (0 : Int) := (by omega)
   have q183 : 0 < ((rd_L3 l1 a2).length : Int) := of_decide_eq_true (by first | (with_reducible assumption) | assumption)
   obtain ⟨ad183, e183, hx183_0⟩ := Kd.at_int HR163_0.out 0 p183 q183
   have hw183_0 := hx183_0
   (try rw [show ((0 : Int)).toNat = 0 from rfl] at hw183_0)
   (try rw [show 0 * 1 = 0 from rfl] at hw183_0)
   (try rw [Addr.add_zero'] at hw183_0)
   cases e183
   have qi183 : (0 < (rd_L3 l1 a2).length) = True := eq_true (by omega)
   (try rw [show ((0 : Int)).toNat = 0 from rfl] at hx183_0)
   (try rw [Addr.add_zero'] at hx183_0)
   replace hx183_0 := hc_ HB hx183_0
   replace p183 := eq_true p183
   replace q183 := eq_true q183
   have p189 : 0 ≤ (1 : Int) := (by omega)
   have q189 : 1 < ((rd_L3 l1 a2).length : Int) := of_decide_eq_true (by first | (with_reducible assumption) | assumption)
   obtain ⟨ad189, e189, hx189_0⟩ := Kd.at_int HR163_0.out 1 p189 q189
   have hw189_0 := hx189_0
   (try rw [show ((1 : Int)).toNat = 1 from rfl] at hw189_0)
   (try rw [show 1 * 1 = 1 from rfl] at hw189_0)
   (try simp only [Nat.reduceMul, Nat.reduceEqDiff, Go.Addr.add, ↓reduceIte] at hw189_0)
   obtain rfl : ad183 = ad189 := (by injection e189)
   (try simp only [show (1 : Int).toNat = 1 from rfl, Nat.reduceMul, Nat.reduceEqDiff, Go.Addr.add, ↓reduceIte] at hx189_0)
   have qi189 : (1 < (rd_L3 l1 a2).length) = True := eq_true (by omega)
   (try rw [show ((1 : Int)).toNat = 1 from rfl] at hx189_0)
   replace hx189_0 := hc_ HB hx189_0
   replace p189 := eq_true p189
   replace q189 := eq_true q189
   refine start_ (n := 26) (S := fun w' => True) (ds := []) (bb 26 0) (by kernel_rfl) rfl rfl trivial (fun hHeld => ?_); refine with_tabW spec_ruShow.tab5 spec_ruShow.bits5 (fun HT_ HW_ => ?_)
   generalize w130.drew = w131 at BK164 HB hx183_0 hx189_0 hHeld ⊢
   refine pl_ HT_ 0 (some 25) (bb 26 1) (h := ?_)
   refine pl_ HT_ 1 (some 26) (bb 26 3) (h := ?_)
   refine pl_ HT_ 2 (some 27) (bb 26 7) (h := ?_)
   refine pl_ HT_ 5 (some 30) (bb 26 39) (h := ?_)
   refine pl_ HT_ 9 (some 34) (bb 26 551) (h := ?_)
   refine pl_ HT_ 16 (some 41) (bb 26 66087) (h := ?_)
   refine pl_ HT_ 17 (some 42) (bb 26 197159) (h := ?_)
   refine pl_ HT_ 18 (some 43) (bb 26 459303) (h := ?_)
   refine pl_ HT_ 21 (some 46) (bb 26 2556455) (h := ?_)
   refine inv_at [3, 4, 6, 7, 8, 10, 11, 12, 13, 14, 15, 19, 20, 22, 23, 24, 25] (fun a0_ b a w' => ∃ (v186 : Value) (adz_v186 : Addr) (m12_ : Value), a = putSel a0_ b [(3, 28, .pointer (some ad183)), (4, 29, .int .i64 (rd (rd_L3 l1 a2) 0)), (6, 31, .string t184), (7, 32, .string (t184 ++ (⟨#[32]⟩ : ByteArray))), (8, 33, v186), (10, 35, .int .i64 ((rd_T33 l0 a2).f0)), (11, 36, .int .i64 ji114), (12, 37, m12_), (13, 38, .string (rdOf ByteArray.empty y185 (ji114))), (14, 39, .string ((t184 ++ (⟨#[32]⟩ : ByteArray)) ++ (rdOf ByteArray.empty y185 (ji114)))), (15, 40, .string (((t184 ++ (⟨#[32]⟩ : ByteArray)) ++ (rdOf ByteArray.empty y185 (ji114))) ++ (⟨#[32]⟩ : ByteArray))), (19, 44, .pointer (some (ad183.add 1))), (20, 45, .int .i64 (rd (rd_L3 l1 a2) 1)), (22, 47, .int .i64 (wrap64 (t165 + 1))), (23, 48, .string t190), (24, 49, .string ((((t184 ++ (⟨#[32]⟩ : ByteArray)) ++ (rdOf ByteArray.empty y185 (ji114))) ++ (⟨#[32]⟩ : ByteArray)) ++ t190)), (25, 12, .string ((((t184 ++ (⟨#[32]⟩ : ByteArray)) ++ (rdOf ByteArray.empty y185 (ji114))) ++ (⟨#[32]⟩ : ByteArray)) ++ t190))] ∧ (w'.heap[gb164]? = some (.cells #[.int .i64 ((rd_T33 l0 a2).f0), .int .i64 ((rd_T33 l0 a2).f1)] 33 (0, 0))) ∧ (Below w.heap.size w w') ∧ (b 8 = true → Kd.R Kd.string 9 w' w.heap.size (fun _ => True) v186 y185) ∧ (b 8 = true → ∃ c_, (v186 : Value) = .slice (some adz_v186) y185.length c_) ∧ (b 12 = true → (m12_ : Value) = .pointer (some (adz_v186.add ((ji114)).toNat)))) HT_.out HW_.out (by kernel_rfl) (by kernel_rfl) ?_ ?_ ?_
   ·exact ⟨.bool false, ⟨0, 0, none⟩, .bool false, by simp only [putSel, Bool.false_eq_true, if_false], BK164.out, HB.out, fun h_ => absurd h_ (by decide), fun h_ => absurd h_ (by decide), fun h_ => absurd h_ (by decide)⟩
   ·refine ?z13_
    let rec p13_ : type_of% ?z13_ := by(
    skip
    clear BK164 HB
    refine steps_cons ?_ ?_
    ·rintro b a w' ⟨v186, adz_v186, m12_, ha, Q_BK164, Q_HB, Q_HO187, Q_HA_HO187, Q_X12_⟩ hbq_ hon hoff
     refine ⟨_, rfl, fun K hK => ?_⟩
     have e27 : a.tmps[27]? = some (.slice (some ad183) (rd_L3 l1 a2).length c163_0) := by rw [ha]; exact (putSel_off rfl).trans rfl
     replace ha := Aside0.mk ha
     have BK164 := Aside0.mk Q_BK164
     have HB := Aside0.mk Q_HB
     have hs0_ : w'.cell? ad183 = some (.int .i64 (rd (rd_L3 l1 a2) 0)) := ((HB.out.cell (World.block_lt_of_cell? w _ hw183_0)).trans hw183_0)
     refine value_ (w1 := w') (v := .pointer (some ad183)) (by rfl) rfl ?_ ?_
     ·go_simp
      (try simp only [i64_w])
      try rfl
     refine hK.out _ _ ⟨v186, adz_v186, m12_, (by rw [ha.out]; exact putSel_upk 0 hbq_ rfl rfl rfl), Q_BK164, Q_HB, Q_HO187, Q_HA_HO187, Q_X12_⟩
    refine steps_cons ?_ ?_
    ·rintro b a w' ⟨v186, adz_v186, m12_, ha, Q_BK164, Q_HB, Q_HO187, Q_HA_HO187, Q_X12_⟩ hbq_ hon hoff
     refine ⟨_, rfl, fun K hK => ?_⟩
     have e28 : a.tmps[28]? = some (.pointer (some ad183)) := by rw [ha]; exact putSel_on (e := (3, 28, .pointer (some ad183))) 0 rfl rfl (hon 3 (by kernel_rfl)) rfl
     replace ha := Aside0.mk ha
     have BK164 := Aside0.mk Q_BK164
     have HB := Aside0.mk Q_HB
     have hs0_ : w'.cell? ad183 = some (.int .i64 (rd (rd_L3 l1 a2) 0)) := ((HB.out.cell (World.block_lt_of_cell? w _ hw183_0)).trans hw183_0)
     refine value_ (w1 := w') (v := .int .i64 (rd (rd_L3 l1 a2) 0)) (by rfl) rfl ?_ ?_
     ·go_simp
      (try simp only [i64_w])
      try rfl
     refine hK.out _ _ ⟨v186, adz_v186, m12_, (by rw [ha.out]; exact putSel_upk 1 hbq_ rfl rfl rfl), Q_BK164, Q_HB, Q_HO187, Q_HA_HO187, Q_X12_⟩
    refine steps_cons ?_ ?_
    ·rintro b a w' ⟨v186, adz_v186, m12_, ha, Q_BK164, Q_HB, Q_HO187, Q_HA_HO187, Q_X12_⟩ hbq_ hon hoff
     refine ⟨_, rfl, fun K hK => ?_⟩
     have e25 : a.tmps[25]? = some (.slice (some ad162) l0.length c0) := by rw [ha]; exact (putSel_off rfl).trans rfl
     have e26 : a.tmps[26]? = some (.slice (some ad163) l1.length c1) := by rw [ha]; exact (putSel_off rfl).trans rfl
     have e29 : a.tmps[29]? = some (.int .i64 (rd (rd_L3 l1 a2) 0)) := by rw [ha]; exact putSel_on (e := (4, 29, .int .i64 (rd (rd_L3 l1 a2) 0))) 1 rfl rfl (hon 4 (by kernel_rfl)) rfl
     have e30 : a.tmps[30]? = some (.int .i64 t165) := by rw [ha]; exact (putSel_off rfl).trans rfl
     replace ha := Aside0.mk ha
     have BK164 := Aside0.mk Q_BK164
     have HB := Aside0.mk Q_HB
     refine goes_ Tryd.func18 (by kernel_rfl) rfl #[.slice (some ad162) l0.length c0, .slice (some ad163) l1.length c1, .int .i64 (rd (rd_L3 l1 a2) 0), .int .i64 t165] (by rfl) rfl rfl (by first | (simp only [List.map_toArray, List.map_cons, List.map_nil, Act.eval, Array.getD_eq_getD_getElem?, Option.getD_some, e25, e26, e29, e30]; done) | (simp only [List.map_toArray, List.map_cons, List.map_nil, Act.eval, Array.getD_eq_getD_getElem?, Option.getD_some, e25, e26, e29, e30]; rfl)) ?_
     with_reducible refine (ih k (by omega) _ _ l0 _ _ l1 (rd (rd_L3 l1 a2) 0) t165 t184 _ ?side1 ?side2 ?side3 ?side4 A112.out).mono ?_
     (case side1 => exact Kd.C_w HR0 HB)
     (case side2 => exact HC0.out)
     (case side3 => exact Kd.C_w HR1 HB)
     (case side4 => exact HC1.out)
     rintro e w132 ⟨rfl, hb⟩
     refine ⟨_, rfl, ?_⟩
     have n0_ := Aside0.mk (blk_below (kp_ BK164) hb)
     have n1_ := Aside0.mk (below_step (hb_ HB) hb)
     have z_HO187 := fun (h0_ : b 8 = true) => (show Kd.R Kd.string 9 w132 w.heap.size (fun _ => True) v186 y185 from by first | exact (Kd.R_below (Kd.R_pp ((Q_HO187 h0_))) hb) | exact Kd.R_mono (Kd.R_below (Kd.R_pp ((Q_HO187 h0_))) hb) (fun _ h_ => by first | trivial | exact h_ | exact h_.1))
     clear BK164
     clear HB
     have BK164 := n0_
     have HB := n1_
     clear n0_ n1_
     refine hK.out _ _ ⟨v186, adz_v186, m12_, (by rw [ha.out]; exact putSel_upk 2 hbq_ rfl rfl rfl), (kp_ BK164), (hb_ HB), z_HO187, Q_HA_HO187, Q_X12_⟩
    refine steps_cons ?_ ?_
    ·rintro b a w' ⟨v186, adz_v186, m12_, ha, Q_BK164, Q_HB, Q_HO187, Q_HA_HO187, Q_X12_⟩ hbq_ hon hoff
     refine ⟨_, rfl, fun K hK => ?_⟩
     have e31 : a.tmps[31]? = some (.string t184) := by rw [ha]; exact putSel_on (e := (6, 31, .string t184)) 2 rfl rfl (hon 6 (by kernel_rfl)) rfl
     replace ha := Aside0.mk ha
     have BK164 := Aside0.mk Q_BK164
     have HB := Aside0.mk Q_HB
     refine value_ (w1 := w') (v := .string (t184 ++ (⟨#[32]⟩ : ByteArray))) (by rfl) rfl ?_ ?_
     ·go_simp
      (try simp only [i64_w])
      try rfl
     refine hK.out _ _ ⟨v186, adz_v186, m12_, (by rw [ha.out]; exact putSel_upk 3 hbq_ rfl rfl rfl), Q_BK164, Q_HB, Q_HO187, Q_HA_HO187, Q_X12_⟩
    refine steps_cons ?_ ?_
    ·rintro b a w' ⟨v186, adz_v186, m12_, ha, Q_BK164, Q_HB, Q_HO187, Q_HA_HO187, Q_X12_⟩ hbq_ hon hoff
     refine ⟨_, rfl, fun K hK => ?_⟩
     replace ha := Aside0.mk ha
     have BK164 := Aside0.mk Q_BK164
     have HB := Aside0.mk Q_HB
     refine Kd.R_lit_step Kd.string _ 9 ?hg (N := 33) ?hd (xs := ([(⟨#[43]⟩ : ByteArray), (⟨#[45]⟩ : ByteArray), (⟨#[42]⟩ : ByteArray), (⟨#[47]⟩ : ByteArray)] : List ByteArray)) (inner := [.string (⟨#[43]⟩ : ByteArray), .string (⟨#[45]⟩ : ByteArray), .string (⟨#[42]⟩ : ByteArray), .string (⟨#[47]⟩ : ByteArray)]) (ok := fun _ => True) (okp := fun _ => True) ?hr ?hp (fun _ hk => hk) trivial (Below.refl _ _) (Nat.le_refl _) (by simp) ?_; (case hd => rfl); (case hg => rfl); (case hr => first | (go_simp; done) | (go_simp; rfl)); (case hp => exact (Reps.one (show Kd.M Kd.string _ _ _ (⟨#[43]⟩ : ByteArray) [.string (⟨#[43]⟩ : ByteArray)] from rfl) (Reps.one (show Kd.M Kd.string _ _ _ (⟨#[45]⟩ : ByteArray) [.string (⟨#[45]⟩ : ByteArray)] from rfl) (Reps.one (show Kd.M Kd.string _ _ _ (⟨#[42]⟩ : ByteArray) [.string (⟨#[42]⟩ : ByteArray)] from rfl) (Reps.one (show Kd.M Kd.string _ _ _ (⟨#[47]⟩ : ByteArray) [.string (⟨#[47]⟩ : ByteArray)] from rfl) (Reps.none _ _))))))
     intro v186 w132 ho133 hb hg_ hnew_
     clear hg_ hnew_
     (first | rw [← Ny185.out] at ho133 | (simp only [Int.reduceToNat] at ho133; rw [← Ny185.out] at ho133))
     have HO187 := Aside0.mk (Kd.R_lower ho133 (below_size (hb_ HB)))
     replace BK164 := Aside0.mk (blk_below (kp_ BK164) hb)
     replace HB := Aside0.mk (below_step (hb_ HB) hb)
     clear hb ho133
     obtain ⟨Ao134, co134, eo134⟩ := Kd.R_slice HO187.out
     subst eo134
     obtain ⟨ado134, fo134, _⟩ := Kd.at_string (Kd.R_reads' HO187.out).2.2 0 (by decide) (by rw [Ny185.out]; simp)
     cases fo134
     refine hK.out _ _ ⟨.slice (some ado134) y185.length co134, ado134, m12_, (by rw [ha.out]; exact putSel_upk 4 hbq_ rfl rfl rfl), (kp_ BK164), (hb_ HB), fun _ => (Kd.R_p HO187), fun _ => ⟨_, rfl⟩, fun h0_ => absurd ((hoff 12 (by kernel_rfl)).symm.trans h0_) (by decide)⟩
    refine steps_cons ?_ ?_
    ·rintro b a w' ⟨v186, adz_v186, m12_, ha, Q_BK164, Q_HB, Q_HO187, Q_HA_HO187, Q_X12_⟩ hbq_ hon hoff
     refine ⟨_, rfl, fun K hK => ?_⟩
     have e34 : a.tmps[34]? = some (.pointer (some ⟨gb164, 0, none⟩)) := by rw [ha]; exact (putSel_off rfl).trans rfl
     replace ha := Aside0.mk ha
     have BK164 := Aside0.mk Q_BK164
     have HB := Aside0.mk Q_HB
     have hc0_ : w'.cell? ⟨gb164, 0, none⟩ = some (.int .i64 ((rd_T33 l0 a2).f0)) := (blk_cell BK164.out 0).trans rfl
     have hc1_ : w'.cell? ⟨gb164, 1, none⟩ = some (.int .i64 ((rd_T33 l0 a2).f1)) := (blk_cell BK164.out 1).trans rfl
     refine value_ (w1 := w') (v := .int .i64 ((rd_T33 l0 a2).f0)) (by rfl) rfl ?_ ?_
     ·go_simp
      (try simp only [i64_w])
      try rfl
     refine hK.out _ _ ⟨v186, adz_v186, m12_, (by rw [ha.out]; exact putSel_upk 5 hbq_ rfl rfl rfl), Q_BK164, Q_HB, Q_HO187, Q_HA_HO187, fun h0_ => absurd ((hoff 12 (by kernel_rfl)).symm.trans h0_) (by decide)⟩
    refine steps_cons ?_ ?_
    ·rintro b a w' ⟨v186, adz_v186, m12_, ha, Q_BK164, Q_HB, Q_HO187, Q_HA_HO187, Q_X12_⟩ hbq_ hon hoff
     refine ⟨_, rfl, fun K hK => ?_⟩
     have e35 : a.tmps[35]? = some (.int .i64 ((rd_T33 l0 a2).f0)) := by rw [ha]; exact putSel_on (e := (10, 35, .int .i64 ((rd_T33 l0 a2).f0))) 5 rfl rfl (hon 10 (by kernel_rfl)) rfl
     replace ha := Aside0.mk ha
     have BK164 := Aside0.mk Q_BK164
     have HB := Aside0.mk Q_HB
     refine value_ (w1 := w') (v := .int .i64 ji114) (by rfl) rfl ?_ ?_
     ·go_simp
      (try simp only [i64_w])
      try rfl
     refine hK.out _ _ ⟨v186, adz_v186, m12_, (by rw [ha.out]; exact putSel_upk 6 hbq_ rfl rfl rfl), Q_BK164, Q_HB, Q_HO187, Q_HA_HO187, fun h0_ => absurd ((hoff 12 (by kernel_rfl)).symm.trans h0_) (by decide)⟩
    refine steps_cons ?_ ?_
    ·rintro b a w' ⟨v186, adz_v186, m12_, ha, Q_BK164, Q_HB, Q_HO187, Q_HA_HO187, Q_X12_⟩ hbq_ hon hoff
     refine ⟨_, rfl, fun K hK => ?_⟩
     have e33 : a.tmps[33]? = some (v186) := by rw [ha]; exact putSel_on (e := (8, 33, v186)) 4 rfl rfl (hon 8 (by kernel_rfl)) rfl
     have e36 : a.tmps[36]? = some (.int .i64 ji114) := by rw [ha]; exact putSel_on (e := (11, 36, .int .i64 ji114)) 6 rfl rfl (hon 11 (by kernel_rfl)) rfl
     replace ha := Aside0.mk ha
     have BK164 := Aside0.mk Q_BK164
     have HB := Aside0.mk Q_HB
     have HO187 := Aside0.mk (Q_HO187 (hon 8 (by kernel_rfl)))
     have HA_HO187 := Aside0.mk (Q_HA_HO187 (hon 8 (by kernel_rfl)))
     obtain ⟨c_, hv_⟩ := HA_HO187.out
     rw [hv_] at e33
     refine value_ (w1 := w') (v := .pointer (some (adz_v186.add ((ji114)).toNat))) (by rfl) rfl ?_ ?_
     ·go_simp
      (try simp only [i64_w])
      try rfl
     refine hK.out _ _ ⟨v186, adz_v186, (.pointer (some (adz_v186.add ((ji114)).toNat))), (by rw [ha.out]; exact putSel_upk 7 hbq_ rfl rfl rfl), Q_BK164, Q_HB, Q_HO187, Q_HA_HO187, fun _ => rfl⟩
    refine steps_cons ?_ ?_
    ·rintro b a w' ⟨v186, adz_v186, m12_, ha, Q_BK164, Q_HB, Q_HO187, Q_HA_HO187, Q_X12_⟩ hbq_ hon hoff
     refine ⟨_, rfl, fun K hK => ?_⟩
     have e37 : a.tmps[37]? = some (m12_) := by rw [ha]; exact putSel_on (e := (12, 37, m12_)) 7 rfl rfl (hon 12 (by kernel_rfl)) rfl
     rw [Q_X12_ (hon 12 (by kernel_rfl))] at e37
     replace ha := Aside0.mk ha
     have BK164 := Aside0.mk Q_BK164
     have HB := Aside0.mk Q_HB
     have HO187 := Aside0.mk (Q_HO187 (hon 8 (by kernel_rfl)))
     have HA_HO187 := Aside0.mk (Q_HA_HO187 (hon 8 (by kernel_rfl)))
     obtain ⟨c_, hv_⟩ := HA_HO187.out
     have hF_ := HO187.out
     rw [hv_] at hF_
     obtain ⟨ad_, ea_, hx_⟩ := Kd.at_string (Kd.R_reads' hF_).2.2 (ji114) (of_eq_true pi188) (of_eq_true qi188)
     cases ea_
     refine value_ (w1 := w') (v := .string (rdOf ByteArray.empty y185 (ji114))) (by rfl) rfl ?_ ?_
     ·go_simp
      (try simp only [i64_w])
      try rfl
     refine hK.out _ _ ⟨v186, adz_v186, m12_, (by rw [ha.out]; exact putSel_upk 8 hbq_ rfl rfl rfl), Q_BK164, Q_HB, Q_HO187, Q_HA_HO187, Q_X12_⟩
    refine steps_cons ?_ ?_
    ·rintro b a w' ⟨v186, adz_v186, m12_, ha, Q_BK164, Q_HB, Q_HO187, Q_HA_HO187, Q_X12_⟩ hbq_ hon hoff
     refine ⟨_, rfl, fun K hK => ?_⟩
     have e32 : a.tmps[32]? = some (.string (t184 ++ (⟨#[32]⟩ : ByteArray))) := by rw [ha]; exact putSel_on (e := (7, 32, .string (t184 ++ (⟨#[32]⟩ : ByteArray)))) 3 rfl rfl (hon 7 (by kernel_rfl)) rfl
     have e38 : a.tmps[38]? = some (.string (rdOf ByteArray.empty y185 (ji114))) := by rw [ha]; exact putSel_on (e := (13, 38, .string (rdOf ByteArray.empty y185 (ji114)))) 8 rfl rfl (hon 13 (by kernel_rfl)) rfl
     replace ha := Aside0.mk ha
     have BK164 := Aside0.mk Q_BK164
     have HB := Aside0.mk Q_HB
     have HO187 := Aside0.mk (Q_HO187 (hon 8 (by kernel_rfl)))
     have HA_HO187 := Aside0.mk (Q_HA_HO187 (hon 8 (by kernel_rfl)))
     refine value_ (w1 := w') (v := .string ((t184 ++ (⟨#[32]⟩ : ByteArray)) ++ (rdOf ByteArray.empty y185 (ji114)))) (by rfl) rfl ?_ ?_
     ·go_simp
      (try simp only [i64_w])
      try rfl
     refine hK.out _ _ ⟨v186, adz_v186, m12_, (by rw [ha.out]; exact putSel_upk 9 hbq_ rfl rfl rfl), Q_BK164, Q_HB, Q_HO187, Q_HA_HO187, Q_X12_⟩
    refine steps_cons ?_ ?_
    ·rintro b a w' ⟨v186, adz_v186, m12_, ha, Q_BK164, Q_HB, Q_HO187, Q_HA_HO187, Q_X12_⟩ hbq_ hon hoff
     refine ⟨_, rfl, fun K hK => ?_⟩
     have e39 : a.tmps[39]? = some (.string ((t184 ++ (⟨#[32]⟩ : ByteArray)) ++ (rdOf ByteArray.empty y185 (ji114)))) := by rw [ha]; exact putSel_on (e := (14, 39, .string ((t184 ++ (⟨#[32]⟩ : ByteArray)) ++ (rdOf ByteArray.empty y185 (ji114))))) 9 rfl rfl (hon 14 (by kernel_rfl)) rfl
     replace ha := Aside0.mk ha
     have BK164 := Aside0.mk Q_BK164
     have HB := Aside0.mk Q_HB
     have HO187 := Aside0.mk (Q_HO187 (hon 8 (by kernel_rfl)))
     have HA_HO187 := Aside0.mk (Q_HA_HO187 (hon 8 (by kernel_rfl)))
     refine value_ (w1 := w') (v := .string (((t184 ++ (⟨#[32]⟩ : ByteArray)) ++ (rdOf ByteArray.empty y185 (ji114))) ++ (⟨#[32]⟩ : ByteArray))) (by rfl) rfl ?_ ?_
     ·go_simp
      (try simp only [i64_w])
      try rfl
     refine hK.out _ _ ⟨v186, adz_v186, m12_, (by rw [ha.out]; exact putSel_upk 10 hbq_ rfl rfl rfl), Q_BK164, Q_HB, Q_HO187, Q_HA_HO187, Q_X12_⟩
    refine steps_cons ?_ ?_
    ·rintro b a w' ⟨v186, adz_v186, m12_, ha, Q_BK164, Q_HB, Q_HO187, Q_HA_HO187, Q_X12_⟩ hbq_ hon hoff
     refine ⟨_, rfl, fun K hK => ?_⟩
     have e43 : a.tmps[43]? = some (.slice (some ad183) (rd_L3 l1 a2).length c163_0) := by rw [ha]; exact (putSel_off rfl).trans rfl
     replace ha := Aside0.mk ha
     have BK164 := Aside0.mk Q_BK164
     have HB := Aside0.mk Q_HB
     have hs1_ : w'.cell? ⟨ad183.block, ad183.off + 1, none⟩ = some (.int .i64 (rd (rd_L3 l1 a2) 1)) := ((HB.out.cell (World.block_lt_of_cell? w _ hw189_0)).trans hw189_0)
     refine value_ (w1 := w') (v := .pointer (some (ad183.add 1))) (by rfl) rfl ?_ ?_
     ·go_simp
      (try simp only [i64_w])
      try rfl
     refine hK.out _ _ ⟨v186, adz_v186, m12_, (by rw [ha.out]; exact putSel_upk 11 hbq_ rfl rfl rfl), Q_BK164, Q_HB, Q_HO187, Q_HA_HO187, Q_X12_⟩
    refine steps_cons ?_ ?_
    ·rintro b a w' ⟨v186, adz_v186, m12_, ha, Q_BK164, Q_HB, Q_HO187, Q_HA_HO187, Q_X12_⟩ hbq_ hon hoff
     refine ⟨_, rfl, fun K hK => ?_⟩
     have e44 : a.tmps[44]? = some (.pointer (some (ad183.add 1))) := by rw [ha]; exact putSel_on (e := (19, 44, .pointer (some (ad183.add 1)))) 11 rfl rfl (hon 19 (by kernel_rfl)) rfl
     replace ha := Aside0.mk ha
     have BK164 := Aside0.mk Q_BK164
     have HB := Aside0.mk Q_HB
     have hs1_ : w'.cell? ⟨ad183.block, ad183.off + 1, none⟩ = some (.int .i64 (rd (rd_L3 l1 a2) 1)) := ((HB.out.cell (World.block_lt_of_cell? w _ hw189_0)).trans hw189_0)
     refine value_ (w1 := w') (v := .int .i64 (rd (rd_L3 l1 a2) 1)) (by rfl) rfl ?_ ?_
     ·go_simp
      (try simp only [i64_w])
      try rfl
     refine hK.out _ _ ⟨v186, adz_v186, m12_, (by rw [ha.out]; exact putSel_upk 12 hbq_ rfl rfl rfl), Q_BK164, Q_HB, Q_HO187, Q_HA_HO187, Q_X12_⟩
    refine steps_cons ?_ ?_
    ·rintro b a w' ⟨v186, adz_v186, m12_, ha, Q_BK164, Q_HB, Q_HO187, Q_HA_HO187, Q_X12_⟩ hbq_ hon hoff
     refine ⟨_, rfl, fun K hK => ?_⟩
     have e46 : a.tmps[46]? = some (.int .i64 t165) := by rw [ha]; exact (putSel_off rfl).trans rfl
     replace ha := Aside0.mk ha
     have BK164 := Aside0.mk Q_BK164
     have HB := Aside0.mk Q_HB
     refine value_ (w1 := w') (v := .int .i64 (wrap64 (t165 + 1))) (by rfl) rfl ?_ ?_
     ·go_simp
      (try simp only [i64_w])
      try rfl
     refine hK.out _ _ ⟨v186, adz_v186, m12_, (by rw [ha.out]; exact putSel_upk 13 hbq_ rfl rfl rfl), Q_BK164, Q_HB, Q_HO187, Q_HA_HO187, Q_X12_⟩
    refine steps_cons ?_ ?_
    ·rintro b a w' ⟨v186, adz_v186, m12_, ha, Q_BK164, Q_HB, Q_HO187, Q_HA_HO187, Q_X12_⟩ hbq_ hon hoff
     refine ⟨_, rfl, fun K hK => ?_⟩
     have e41 : a.tmps[41]? = some (.slice (some ad162) l0.length c0) := by rw [ha]; exact (putSel_off rfl).trans rfl
     have e42 : a.tmps[42]? = some (.slice (some ad163) l1.length c1) := by rw [ha]; exact (putSel_off rfl).trans rfl
     have e45 : a.tmps[45]? = some (.int .i64 (rd (rd_L3 l1 a2) 1)) := by rw [ha]; exact putSel_on (e := (20, 45, .int .i64 (rd (rd_L3 l1 a2) 1))) 12 rfl rfl (hon 20 (by kernel_rfl)) rfl
     have e47 : a.tmps[47]? = some (.int .i64 (wrap64 (t165 + 1))) := by rw [ha]; exact putSel_on (e := (22, 47, .int .i64 (wrap64 (t165 + 1)))) 13 rfl rfl (hon 22 (by kernel_rfl)) rfl
     replace ha := Aside0.mk ha
     have BK164 := Aside0.mk Q_BK164
     have HB := Aside0.mk Q_HB
     refine goes_ Tryd.func18 (by kernel_rfl) rfl #[.slice (some ad162) l0.length c0, .slice (some ad163) l1.length c1, .int .i64 (rd (rd_L3 l1 a2) 1), .int .i64 (wrap64 (t165 + 1))] (by rfl) rfl rfl (by first | (simp only [List.map_toArray, List.map_cons, List.map_nil, Act.eval, Array.getD_eq_getD_getElem?, Option.getD_some, e41, e42, e45, e47]; done) | (simp only [List.map_toArray, List.map_cons, List.map_nil, Act.eval, Array.getD_eq_getD_getElem?, Option.getD_some, e41, e42, e45, e47]; rfl)) ?_
     with_reducible refine (ih k (by omega) _ _ l0 _ _ l1 (rd (rd_L3 l1 a2) 1) (wrap64 (t165 + 1)) t190 _ ?side1 ?side2 ?side3 ?side4 A120.out).mono ?_
     (case side1 => exact Kd.C_w HR0 HB)
     (case side2 => exact HC0.out)
     (case side3 => exact Kd.C_w HR1 HB)
     (case side4 => exact HC1.out)
     rintro e w134 ⟨rfl, hb⟩
     refine ⟨_, rfl, ?_⟩
     have n0_ := Aside0.mk (blk_below (kp_ BK164) hb)
     have n1_ := Aside0.mk (below_step (hb_ HB) hb)
     have z_HO187 := fun (h0_ : b 8 = true) => (show Kd.R Kd.string 9 w134 w.heap.size (fun _ => True) v186 y185 from by first | exact (Kd.R_below (Kd.R_pp ((Q_HO187 h0_))) hb) | exact Kd.R_mono (Kd.R_below (Kd.R_pp ((Q_HO187 h0_))) hb) (fun _ h_ => by first | trivial | exact h_ | exact h_.1))
     clear BK164
     clear HB
     have BK164 := n0_
     have HB := n1_
     clear n0_ n1_
     refine hK.out _ _ ⟨v186, adz_v186, m12_, (by rw [ha.out]; exact putSel_upk 14 hbq_ rfl rfl rfl), (kp_ BK164), (hb_ HB), z_HO187, Q_HA_HO187, Q_X12_⟩
    refine steps_cons ?_ ?_
    ·rintro b a w' ⟨v186, adz_v186, m12_, ha, Q_BK164, Q_HB, Q_HO187, Q_HA_HO187, Q_X12_⟩ hbq_ hon hoff
     refine ⟨_, rfl, fun K hK => ?_⟩
     have e40 : a.tmps[40]? = some (.string (((t184 ++ (⟨#[32]⟩ : ByteArray)) ++ (rdOf ByteArray.empty y185 (ji114))) ++ (⟨#[32]⟩ : ByteArray))) := by rw [ha]; exact putSel_on (e := (15, 40, .string (((t184 ++ (⟨#[32]⟩ : ByteArray)) ++ (rdOf ByteArray.empty y185 (ji114))) ++ (⟨#[32]⟩ : ByteArray)))) 10 rfl rfl (hon 15 (by kernel_rfl)) rfl
     have e48 : a.tmps[48]? = some (.string t190) := by rw [ha]; exact putSel_on (e := (23, 48, .string t190)) 14 rfl rfl (hon 23 (by kernel_rfl)) rfl
     replace ha := Aside0.mk ha
     have BK164 := Aside0.mk Q_BK164
     have HB := Aside0.mk Q_HB
     have HO187 := Aside0.mk (Q_HO187 (hon 8 (by kernel_rfl)))
     have HA_HO187 := Aside0.mk (Q_HA_HO187 (hon 8 (by kernel_rfl)))
     refine value_ (w1 := w') (v := .string ((((t184 ++ (⟨#[32]⟩ : ByteArray)) ++ (rdOf ByteArray.empty y185 (ji114))) ++ (⟨#[32]⟩ : ByteArray)) ++ t190)) (by rfl) rfl ?_ ?_
     ·go_simp
      (try simp only [i64_w])
      try rfl
     refine hK.out _ _ ⟨v186, adz_v186, m12_, (by rw [ha.out]; exact putSel_upk 15 hbq_ rfl rfl rfl), Q_BK164, Q_HB, Q_HO187, Q_HA_HO187, Q_X12_⟩
    refine steps_cons ?_ ?_
    ·rintro b a w' ⟨v186, adz_v186, m12_, ha, Q_BK164, Q_HB, Q_HO187, Q_HA_HO187, Q_X12_⟩ hbq_ hon hoff
     refine ⟨_, rfl, fun K hK => ?_⟩
     have e49 : a.tmps[49]? = some (.string ((((t184 ++ (⟨#[32]⟩ : ByteArray)) ++ (rdOf ByteArray.empty y185 (ji114))) ++ (⟨#[32]⟩ : ByteArray)) ++ t190)) := by rw [ha]; exact putSel_on (e := (24, 49, .string ((((t184 ++ (⟨#[32]⟩ : ByteArray)) ++ (rdOf ByteArray.empty y185 (ji114))) ++ (⟨#[32]⟩ : ByteArray)) ++ t190))) 15 rfl rfl (hon 24 (by kernel_rfl)) rfl
     replace ha := Aside0.mk ha
     have BK164 := Aside0.mk Q_BK164
     have HB := Aside0.mk Q_HB
     have HO187 := Aside0.mk (Q_HO187 (hon 8 (by kernel_rfl)))
     have HA_HO187 := Aside0.mk (Q_HA_HO187 (hon 8 (by kernel_rfl)))
     refine value_ (w1 := w') (v := .string ((((t184 ++ (⟨#[32]⟩ : ByteArray)) ++ (rdOf ByteArray.empty y185 (ji114))) ++ (⟨#[32]⟩ : ByteArray)) ++ t190)) (by rfl) rfl ?_ ?_
     ·go_simp
      (try simp only [i64_w])
      try rfl
     refine hK.out _ _ ⟨v186, adz_v186, m12_, (by rw [ha.out]; exact putSel_upk 16 hbq_ rfl rfl rfl), Q_BK164, Q_HB, Q_HO187, Q_HA_HO187, Q_X12_⟩
    exact steps_nil
    )
    exact p13_
   rintro b a w137 hall ⟨v186, adz_v186, m12_, ha, Q_BK164, Q_HB, Q_HO187, Q_HA_HO187, Q_X12_⟩
   clear BK164 HB
   have hb3_ := hall 3 (by kernel_rfl)
   have hb4_ := hall 4 (by kernel_rfl)
   have hb6_ := hall 6 (by kernel_rfl)
   have hb7_ := hall 7 (by kernel_rfl)
   have hb8_ := hall 8 (by kernel_rfl)
   have hb10_ := hall 10 (by kernel_rfl)
   have hb11_ := hall 11 (by kernel_rfl)
   have hb12_ := hall 12 (by kernel_rfl)
   have hb13_ := hall 13 (by kernel_rfl)
   have hb14_ := hall 14 (by kernel_rfl)
   have hb15_ := hall 15 (by kernel_rfl)
   have hb19_ := hall 19 (by kernel_rfl)
   have hb20_ := hall 20 (by kernel_rfl)
   have hb22_ := hall 22 (by kernel_rfl)
   have hb23_ := hall 23 (by kernel_rfl)
   have hb24_ := hall 24 (by kernel_rfl)
   have hb25_ := hall 25 (by kernel_rfl)
   subst ha
   obtain rfl := Q_X12_ hb12_
   simp only [putSel, hb3_, hb4_, hb6_, hb7_, hb8_, hb10_, hb11_, hb12_, hb13_, hb14_, hb15_, hb19_, hb20_, hb22_, hb23_, hb24_, hb25_, if_true, Act.put, List.setIfInBounds_toArray, List.set_cons_zero, List.set_cons_succ]
   have BK164 := Aside0.mk Q_BK164
   clear Q_BK164
   have HB := Aside0.mk Q_HB
   clear Q_HB
   have HO187 := Aside0.mk (Q_HO187 hb8_)
   clear Q_HO187
   have HA_HO187 := Aside0.mk (Q_HA_HO187 hb8_)
   clear Q_HA_HO187
   clear hall hb3_ hb4_ hb6_ hb7_ hb8_ hb10_ hb11_ hb12_ hb13_ hb14_ hb15_ hb19_ hb20_ hb22_ hb23_ hb24_ hb25_
   obtain ⟨co138, eo138⟩ := HA_HO187.out
   clear HA_HO187
   subst eo138
   try go_wp2
   go_ret
   exact ⟨by first | rfl | (simp [errW_none, errW_some] <;> rfl) | (simp only [← hji114]; first | rfl | (simp [errW_none, errW_some] <;> rfl)) | (simp [*, errW_none, errW_some] <;> rfl), hb_ HB⟩
   )
   exact p12_
  refine ?z14_
  let rec p14_ : type_of% ?z14_ := by(
  rw [if_neg c122] at H
  have c122b0 := decide_eq_false c122
  clear c122
  obtain rfl := Option.some.inj H
  go_enter Tryd.func18, Tryd.ntmps18
  try go_wp2
  replace HB := Aside0.mk (below_drew1 HB.out)
  have p162 : 0 ≤ (a2 : Int) := of_decide_eq_true (by first | (with_reducible assumption) | assumption)
  have q162 : a2 < (l0.length : Int) := of_decide_eq_true (by first | (with_reducible assumption) | assumption)
  obtain ⟨ad162, e162, hx162_0, hx162_1⟩ := at_T33 HR0.out a2 p162 q162
  have hw162_1 := hx162_1
  have hw162_0 := hx162_0
  cases e162
  replace hx162_0 := hc_ HB hx162_0
  replace hx162_1 := hc_ HB hx162_1
  replace p162 := eq_true p162
  replace q162 := eq_true q162
  have p163 : 0 ≤ (a2 : Int) := of_decide_eq_true (by first | (with_reducible assumption) | assumption)
  have q163 : a2 < (l1.length : Int) := of_decide_eq_true (by first | (with_reducible assumption) | assumption)
  obtain ⟨ad163, A163_0, c163_0, e163, hx163_0, hl163_0, hi163_0⟩ := at_L3 HR1.out a2 p163 q163
  have hw163_0 := hx163_0
  cases e163
  replace hx163_0 := hc_ HB hx163_0
  have HR163_0 := Aside0.mk hi163_0
  have HC163_0 := Aside0.mk hl163_0
  clear hi163_0 hl163_0
  replace p163 := eq_true p163
  replace q163 := eq_true q163
  refine start_ (n := 11) (S := fun w' => w'.cell? (ad162.add ((a2).toNat * 2)) = some (.int .i64 ((rd_T33 l0 a2).f0)) ∧ w'.cell? ⟨(ad162.add ((a2).toNat * 2)).block, (ad162.add ((a2).toNat * 2)).off + 1, none⟩ = some (.int .i64 ((rd_T33 l0 a2).f1)) ∧ w'.cell? (ad163.add (a2).toNat) = some (.slice A163_0 (rd_L3 l1 a2).length c163_0)) (ds := []) (bb 11 0) (by kernel_rfl) rfl rfl ⟨((HB.out.cell (World.block_lt_of_cell? w _ hw162_0)).trans hw162_0), ((HB.out.cell (World.block_lt_of_cell? w _ hw162_1)).trans hw162_1), ((HB.out.cell (World.block_lt_of_cell? w _ hw163_0)).trans hw163_0)⟩ (fun hHeld => ?_); refine with_tabW spec_ruShow.tab1 spec_ruShow.bits1 (fun HT_ HW_ => ?_)
  generalize w.drew = w139 at HB HR163_0 hx162_0 hx162_1 hx163_0 hHeld ⊢
  refine pl_ HT_ 0 (some 13) (bb 11 1) (h := ?_)
  refine pl_ HT_ 1 (some 14) (bb 11 3) (h := ?_)
  refine pl_ HT_ 2 (some 15) (bb 11 7) (h := ?_)
  refine pl_ HT_ 4 (some 17) (bb 11 23) (h := ?_)
  refine pl_ HT_ 5 (some 18) (bb 11 55) (h := ?_)
  refine pl_ HT_ 6 (some 19) (bb 11 119) (h := ?_)
  refine tk_ HT_ HW_ hHeld 3 (some 16) (bb 11 127) (h := ?_)
  refine tk_ HT_ HW_ hHeld 7 (some 20) (bb 11 255) (h := ?_)
  refine one_ (i := 8) (N := some 9) (bb 11 511) rfl rfl (one_of HT_.out (by kernel_rfl)) (by decide) (fun K hK => ?_)
  refine box_step ?hg (N := 9) ?hd (cs := #[.int .i64 0, .int .i64 0]) (t := 33) ?hr ?_; (case hd => rfl); (case hg => rfl); (case hr => first | (go_simp; done) | (go_simp; rfl))
  intro gb164 hg w140 hbox hb
  have n0_ := Aside0.mk (below_step (hb_ HB) hb)
  have n1_ := Aside0.mk (hbox)
  have n2_ := Aside0.mk ((by rw [hg]; exact (below_size (hb_ HB)) : w.heap.size ≤ gb164))
  have n3_ := Aside0.mk ((by rw [hg]; exact (below_size (hb_ HB)) : w.heap.size ≤ gb164))
  clear HB
  have HB := n0_
  have BK164 := n1_
  have GW164 := n2_
  have GE164 := n3_
  clear n0_ n1_ n2_ n3_
  clear hb hbox hg
  refine hK.out _ _ ⟨((HB.out.cell (World.block_lt_of_cell? w _ hw162_0)).trans hw162_0), ((HB.out.cell (World.block_lt_of_cell? w _ hw162_1)).trans hw162_1), ((HB.out.cell (World.block_lt_of_cell? w _ hw163_0)).trans hw163_0)⟩ (fun hHeld => ?_)
  clear hK K
  refine nm_ (some 9) (h := ?_)
  refine one_ (i := 9) (N := none) (bb 11 1023) rfl rfl (one_of HT_.out (by kernel_rfl)) (by decide) (fun K hK => ?_)
  have hs141 : w140.cell? ⟨gb164, 0, none⟩ = some (.int .i64 0) := (blk_cell BK164.out 0).trans rfl
  have hfs141 := blk_frozen BK164.out 0
  have hs142 : w140.cell? ⟨gb164, 1, none⟩ = some (.int .i64 0) := (blk_cell BK164.out 1).trans rfl
  have hfs142 := blk_frozen BK164.out 1
  refine skip_ (w1 := ?_) (by rfl) rfl ?_ ?_
  rotate_left
  ·go_simp
   rfl
  refine hK.out _ _ ⟨((cell_far (p := ⟨gb164, _, none⟩) (by first | exact Nat.ne_of_lt (Nat.lt_of_lt_of_le (by have := World.block_lt_of_cell? _ _ hw162_0; first | rwa [add_block] at this | exact this) GW164.out) | (rw [add_block]; exact Nat.ne_of_lt (Nat.lt_of_lt_of_le (by have := World.block_lt_of_cell? _ _ hw162_0; first | rwa [add_block] at this | exact this) GW164.out)) | (show (Addr.add _ _).block ≠ _; rw [add_block]; exact Nat.ne_of_lt (Nat.lt_of_lt_of_le (by have := World.block_lt_of_cell? _ _ hw162_0; first | rwa [add_block] at this | exact this) GW164.out)) | (dsimp only; exact Nat.ne_of_lt (Nat.lt_of_lt_of_le (by have := World.block_lt_of_cell? _ _ hw162_0; first | rwa [add_block] at this | exact this) GW164.out))) _).trans (((cell_far (p := ⟨gb164, _, none⟩) (by first | exact Nat.ne_of_lt (Nat.lt_of_lt_of_le (by have := World.block_lt_of_cell? _ _ hw162_0; first | rwa [add_block] at this | exact this) GW164.out) | (rw [add_block]; exact Nat.ne_of_lt (Nat.lt_of_lt_of_le (by have := World.block_lt_of_cell? _ _ hw162_0; first | rwa [add_block] at this | exact this) GW164.out)) | (show (Addr.add _ _).block ≠ _; rw [add_block]; exact Nat.ne_of_lt (Nat.lt_of_lt_of_le (by have := World.block_lt_of_cell? _ _ hw162_0; first | rwa [add_block] at this | exact this) GW164.out)) | (dsimp only; exact Nat.ne_of_lt (Nat.lt_of_lt_of_le (by have := World.block_lt_of_cell? _ _ hw162_0; first | rwa [add_block] at this | exact this) GW164.out))) _).trans (hHeld.1)))), ((cell_far (p := ⟨gb164, _, none⟩) (by first | exact Nat.ne_of_lt (Nat.lt_of_lt_of_le (by have := World.block_lt_of_cell? _ _ hw162_1; first | rwa [add_block] at this | exact this) GW164.out) | (rw [add_block]; exact Nat.ne_of_lt (Nat.lt_of_lt_of_le (by have := World.block_lt_of_cell? _ _ hw162_1; first | rwa [add_block] at this | exact this) GW164.out)) | (show (Addr.add _ _).block ≠ _; rw [add_block]; exact Nat.ne_of_lt (Nat.lt_of_lt_of_le (by have := World.block_lt_of_cell? _ _ hw162_1; first | rwa [add_block] at this | exact this) GW164.out)) | (dsimp only; exact Nat.ne_of_lt (Nat.lt_of_lt_of_le (by have := World.block_lt_of_cell? _ _ hw162_1; first | rwa [add_block] at this | exact this) GW164.out))) _).trans (((cell_far (p := ⟨gb164, _, none⟩) (by first | exact Nat.ne_of_lt (Nat.lt_of_lt_of_le (by have := World.block_lt_of_cell? _ _ hw162_1; first | rwa [add_block] at this | exact this) GW164.out) | (rw [add_block]; exact Nat.ne_of_lt (Nat.lt_of_lt_of_le (by have := World.block_lt_of_cell? _ _ hw162_1; first | rwa [add_block] at this | exact this) GW164.out)) | (show (Addr.add _ _).block ≠ _; rw [add_block]; exact Nat.ne_of_lt (Nat.lt_of_lt_of_le (by have := World.block_lt_of_cell? _ _ hw162_1; first | rwa [add_block] at this | exact this) GW164.out)) | (dsimp only; exact Nat.ne_of_lt (Nat.lt_of_lt_of_le (by have := World.block_lt_of_cell? _ _ hw162_1; first | rwa [add_block] at this | exact this) GW164.out))) _).trans (hHeld.2.1)))), ((cell_far (p := ⟨gb164, _, none⟩) (by first | exact Nat.ne_of_lt (Nat.lt_of_lt_of_le (by have := World.block_lt_of_cell? _ _ hw163_0; first | rwa [add_block] at this | exact this) GW164.out) | (rw [add_block]; exact Nat.ne_of_lt (Nat.lt_of_lt_of_le (by have := World.block_lt_of_cell? _ _ hw163_0; first | rwa [add_block] at this | exact this) GW164.out)) | (show (Addr.add _ _).block ≠ _; rw [add_block]; exact Nat.ne_of_lt (Nat.lt_of_lt_of_le (by have := World.block_lt_of_cell? _ _ hw163_0; first | rwa [add_block] at this | exact this) GW164.out)) | (dsimp only; exact Nat.ne_of_lt (Nat.lt_of_lt_of_le (by have := World.block_lt_of_cell? _ _ hw163_0; first | rwa [add_block] at this | exact this) GW164.out))) _).trans (((cell_far (p := ⟨gb164, _, none⟩) (by first | exact Nat.ne_of_lt (Nat.lt_of_lt_of_le (by have := World.block_lt_of_cell? _ _ hw163_0; first | rwa [add_block] at this | exact this) GW164.out) | (rw [add_block]; exact Nat.ne_of_lt (Nat.lt_of_lt_of_le (by have := World.block_lt_of_cell? _ _ hw163_0; first | rwa [add_block] at this | exact this) GW164.out)) | (show (Addr.add _ _).block ≠ _; rw [add_block]; exact Nat.ne_of_lt (Nat.lt_of_lt_of_le (by have := World.block_lt_of_cell? _ _ hw163_0; first | rwa [add_block] at this | exact this) GW164.out)) | (dsimp only; exact Nat.ne_of_lt (Nat.lt_of_lt_of_le (by have := World.block_lt_of_cell? _ _ hw163_0; first | rwa [add_block] at this | exact this) GW164.out))) _).trans (hHeld.2.2))))⟩ (fun hHeld => ?_)
  clear hK K
  refine pl_ HT_ 10 (some 10) (bb 11 2047) (h := ?_)
  refine done_ (done_of HT_.out (by kernel_rfl)) ?_
  obtain ⟨hcz143_0, hcz143_1, hfz143_0, hfz143_1⟩ := bx2 BK164
  try go_wp2_with (first | ((with_reducible refine gate_callee (f := 26) rfl ?_); refine gl_ (some 23) Tryd.func26 #[.int .i64 ((rd_T33 l0 a2).f0)] rfl rfl rfl ?_; (with_reducible refine (spec_ruLevel.calls ((rd_T33 l0 a2).f0) t165 _ A8.out).mono ?_); rintro e w' ⟨rfl, ⟨nd, rfl⟩⟩; refine ⟨_, rfl, ?_⟩))
  have pi188 : (0 ≤ ((ji114) : Int)) = True := eq_true (of_decide_eq_true (by first | (with_reducible assumption) | assumption))
  have qi188 : ((ji114) < (y185.length : Int)) = True := eq_true (of_decide_eq_true (by first | (with_reducible assumption) | assumption))
  have n0_ : Aside0 (((w140.setCell ⟨gb164, 0, none⟩ (.int .i64 ((rd_T33 l0 a2).f0))).setCell ⟨gb164, 1, none⟩ (.int .i64 ((rd_T33 l0 a2).f1))).heap[gb164]? = some (.cells #[.int .i64 ((rd_T33 l0 a2).f0), .int .i64 ((rd_T33 l0 a2).f1)] 33 (0, 0))) := ⟨kpq_ (kputs BK164 [(0, _), (1, _)])⟩
  have n1_ : Aside0 (Below w.heap.size w ((w140.setCell ⟨gb164, 0, none⟩ (.int .i64 ((rd_T33 l0 a2).f0))).setCell ⟨gb164, 1, none⟩ (.int .i64 ((rd_T33 l0 a2).f1)))) := ⟨hb_ HB⟩
  generalize ((w140.setCell ⟨gb164, 0, none⟩ (.int .i64 ((rd_T33 l0 a2).f0))).setCell ⟨gb164, 1, none⟩ (.int .i64 ((rd_T33 l0 a2).f1))) = w144 at n0_ n1_ ⊢
  have BK164 := n0_
  have HB := n1_
  clear n0_ n1_
  (try (rw [drewN_self w144]; generalize hq_ : World.drewN w144 _ = w144; have n0_ : Aside0 (w144.heap[gb164]? = some (.cells #[.int .i64 ((rd_T33 l0 a2).f0), .int .i64 ((rd_T33 l0 a2).f1)] 33 (0, 0))) := ⟨by rw [← hq_]; exact (kp_ BK164)⟩; have n1_ : Aside0 (Below w.heap.size w w144) := ⟨by rw [← hq_]; exact (hb_ HB)⟩; clear BK164 HB hq_; have BK164 := n0_; have HB := n1_; clear n0_ n1_))
  replace BK164 := Aside0.mk (blk_drew BK164.out)
  replace HB := Aside0.mk (below_drew1 HB.out)
  have p183 : 0 ≤ (0 : Int) := (by omega)
  have q183 : 0 < ((rd_L3 l1 a2).length : Int) := of_decide_eq_true (by first | (with_reducible assumption) | assumption)
  obtain ⟨ad183, e183, hx183_0⟩ := Kd.at_int HR163_0.out 0 p183 q183
  have hw183_0 := hx183_0
  (try rw [show ((0 : Int)).toNat = 0 from rfl] at hw183_0)
  (try rw [show 0 * 1 = 0 from rfl] at hw183_0)
  (try rw [Addr.add_zero'] at hw183_0)
  cases e183
  have qi183 : (0 < (rd_L3 l1 a2).length) = True := eq_true (by omega)
  (try rw [show ((0 : Int)).toNat = 0 from rfl] at hx183_0)
  (try rw [Addr.add_zero'] at hx183_0)
  replace hx183_0 := hc_ HB hx183_0
  replace p183 := eq_true p183
  replace q183 := eq_true q183
  have p189 : 0 ≤ (1 : Int) := (by omega)
  have q189 : 1 < ((rd_L3 l1 a2).length : Int) := of_decide_eq_true (by first | (with_reducible assumption) | assumption)
  obtain ⟨ad189, e189, hx189_0⟩ := Kd.at_int HR163_0.out 1 p189 q189
  have hw189_0 := hx189_0
  (try rw [show ((1 : Int)).toNat = 1 from rfl] at hw189_0)
  (try rw [show 1 * 1 = 1 from rfl] at hw189_0)
  (try simp only [Nat.reduceMul, Nat.reduceEqDiff, Go.Addr.add, ↓reduceIte] at hw189_0)
  obtain rfl : ad183 = ad189 := (by injection e189)
  (try simp only [show (1 : Int).toNat = 1 from rfl, Nat.reduceMul, Nat.reduceEqDiff, Go.Addr.add, ↓reduceIte] at hx189_0)
  have qi189 : (1 < (rd_L3 l1 a2).length) = True := eq_true (by omega)
  (try rw [show ((1 : Int)).toNat = 1 from rfl] at hx189_0)
  replace hx189_0 := hc_ HB hx189_0
  replace p189 := eq_true p189
  replace q189 := eq_true q189
  refine start_ (n := 26) (S := fun w' => True) (ds := []) (bb 26 0) (by kernel_rfl) rfl rfl trivial (fun hHeld => ?_); refine with_tabW spec_ruShow.tab5 spec_ruShow.bits5 (fun HT_ HW_ => ?_)
  generalize w144.drew = w145 at BK164 HB hx183_0 hx189_0 hHeld ⊢
  refine pl_ HT_ 0 (some 25) (bb 26 1) (h := ?_)
  refine pl_ HT_ 1 (some 26) (bb 26 3) (h := ?_)
  refine pl_ HT_ 2 (some 27) (bb 26 7) (h := ?_)
  refine pl_ HT_ 5 (some 30) (bb 26 39) (h := ?_)
  refine pl_ HT_ 9 (some 34) (bb 26 551) (h := ?_)
  refine pl_ HT_ 16 (some 41) (bb 26 66087) (h := ?_)
  refine pl_ HT_ 17 (some 42) (bb 26 197159) (h := ?_)
  refine pl_ HT_ 18 (some 43) (bb 26 459303) (h := ?_)
  refine pl_ HT_ 21 (some 46) (bb 26 2556455) (h := ?_)
  refine inv_at [3, 4, 6, 7, 8, 10, 11, 12, 13, 14, 15, 19, 20, 22, 23, 24, 25] (fun a0_ b a w' => ∃ (v186 : Value) (adz_v186 : Addr) (m12_ : Value), a = putSel a0_ b [(3, 28, .pointer (some ad183)), (4, 29, .int .i64 (rd (rd_L3 l1 a2) 0)), (6, 31, .string t184), (7, 32, .string (t184 ++ (⟨#[32]⟩ : ByteArray))), (8, 33, v186), (10, 35, .int .i64 ((rd_T33 l0 a2).f0)), (11, 36, .int .i64 ji114), (12, 37, m12_), (13, 38, .string (rdOf ByteArray.empty y185 (ji114))), (14, 39, .string ((t184 ++ (⟨#[32]⟩ : ByteArray)) ++ (rdOf ByteArray.empty y185 (ji114)))), (15, 40, .string (((t184 ++ (⟨#[32]⟩ : ByteArray)) ++ (rdOf ByteArray.empty y185 (ji114))) ++ (⟨#[32]⟩ : ByteArray))), (19, 44, .pointer (some (ad183.add 1))), (20, 45, .int .i64 (rd (rd_L3 l1 a2) 1)), (22, 47, .int .i64 (wrap64 (t165 + 1))), (23, 48, .string t190), (24, 49, .string ((((t184 ++ (⟨#[32]⟩ : ByteArray)) ++ (rdOf ByteArray.empty y185 (ji114))) ++ (⟨#[32]⟩ : ByteArray)) ++ t190)), (25, 12, .string ((((t184 ++ (⟨#[32]⟩ : ByteArray)) ++ (rdOf ByteArray.empty y185 (ji114))) ++ (⟨#[32]⟩ : ByteArray)) ++ t190))] ∧ (w'.heap[gb164]? = some (.cells #[.int .i64 ((rd_T33 l0 a2).f0), .int .i64 ((rd_T33 l0 a2).f1)] 33 (0, 0))) ∧ (Below w.heap.size w w') ∧ (b 8 = true → Kd.R Kd.string 9 w' w.heap.size (fun _ => True) v186 y185) ∧ (b 8 = true → ∃ c_, (v186 : Value) = .slice (some adz_v186) y185.length c_) ∧ (b 12 = true → (m12_ : Value) = .pointer (some (adz_v186.add ((ji114)).toNat)))) HT_.out HW_.out (by kernel_rfl) (by kernel_rfl) ?_ ?_ ?_
  ·exact ⟨.bool false, ⟨0, 0, none⟩, .bool false, by simp only [putSel, Bool.false_eq_true, if_false], BK164.out, HB.out, fun h_ => absurd h_ (by decide), fun h_ => absurd h_ (by decide), fun h_ => absurd h_ (by decide)⟩
  ·refine ?z15_
   let rec p15_ : type_of% ?z15_ := by(
   skip
   clear BK164 HB
   refine steps_cons ?_ ?_
   ·rintro b a w' ⟨v186, adz_v186, m12_, ha, Q_BK164, Q_HB, Q_HO187, Q_HA_HO187, Q_X12_⟩ hbq_ hon hoff
    refine ⟨_, rfl, fun K hK => ?_⟩
    have e27 : a.tmps[27]? = some (.slice (some ad183) (rd_L3 l1 a2).length c163_0) := by rw [ha]; exact (putSel_off rfl).trans rfl
    replace ha := Aside0.mk ha
    have BK164 := Aside0.mk Q_BK164
    have HB := Aside0.mk Q_HB
    have hs0_ : w'.cell? ad183 = some (.int .i64 (rd (rd_L3 l1 a2) 0)) := ((HB.out.cell (World.block_lt_of_cell? w _ hw183_0)).trans hw183_0)
    refine value_ (w1 := w') (v := .pointer (some ad183)) (by rfl) rfl ?_ ?_
    ·go_simp
     (try simp only [i64_w])
     try rfl
    refine hK.out _ _ ⟨v186, adz_v186, m12_, (by rw [ha.out]; exact putSel_upk 0 hbq_ rfl rfl rfl), Q_BK164, Q_HB, Q_HO187, Q_HA_HO187, Q_X12_⟩
   refine steps_cons ?_ ?_
   ·rintro b a w' ⟨v186, adz_v186, m12_, ha, Q_BK164, Q_HB, Q_HO187, Q_HA_HO187, Q_X12_⟩ hbq_ hon hoff
    refine ⟨_, rfl, fun K hK => ?_⟩
    have e28 : a.tmps[28]? = some (.pointer (some ad183)) := by rw [ha]; exact putSel_on (e := (3, 28, .pointer (some ad183))) 0 rfl rfl (hon 3 (by kernel_rfl)) rfl
    replace ha := Aside0.mk ha
    have BK164 := Aside0.mk Q_BK164
    have HB := Aside0.mk Q_HB
    have hs0_ : w'.cell? ad183 = some (.int .i64 (rd (rd_L3 l1 a2) 0)) := ((HB.out.cell (World.block_lt_of_cell? w _ hw183_0)).trans hw183_0)
    refine value_ (w1 := w') (v := .int .i64 (rd (rd_L3 l1 a2) 0)) (by rfl) rfl ?_ ?_
    ·go_simp
     (try simp only [i64_w])
     try rfl
    refine hK.out _ _ ⟨v186, adz_v186, m12_, (by rw [ha.out]; exact putSel_upk 1 hbq_ rfl rfl rfl), Q_BK164, Q_HB, Q_HO187, Q_HA_HO187, Q_X12_⟩
   refine steps_cons ?_ ?_
   ·rintro b a w' ⟨v186, adz_v186, m12_, ha, Q_BK164, Q_HB, Q_HO187, Q_HA_HO187, Q_X12_⟩ hbq_ hon hoff
    refine ⟨_, rfl, fun K hK => ?_⟩
    have e25 : a.tmps[25]? = some (.slice (some ad162) l0.length c0) := by rw [ha]; exact (putSel_off rfl).trans rfl
    have e26 : a.tmps[26]? = some (.slice (some ad163) l1.length c1) := by rw [ha]; exact (putSel_off rfl).trans rfl
    have e29 : a.tmps[29]? = some (.int .i64 (rd (rd_L3 l1 a2) 0)) := by rw [ha]; exact putSel_on (e := (4, 29, .int .i64 (rd (rd_L3 l1 a2) 0))) 1 rfl rfl (hon 4 (by kernel_rfl)) rfl
    have e30 : a.tmps[30]? = some (.int .i64 t165) := by rw [ha]; exact (putSel_off rfl).trans rfl
    replace ha := Aside0.mk ha
    have BK164 := Aside0.mk Q_BK164
    have HB := Aside0.mk Q_HB
    refine goes_ Tryd.func18 (by kernel_rfl) rfl #[.slice (some ad162) l0.length c0, .slice (some ad163) l1.length c1, .int .i64 (rd (rd_L3 l1 a2) 0), .int .i64 t165] (by rfl) rfl rfl (by first | (simp only [List.map_toArray, List.map_cons, List.map_nil, Act.eval, Array.getD_eq_getD_getElem?, Option.getD_some, e25, e26, e29, e30]; done) | (simp only [List.map_toArray, List.map_cons, List.map_nil, Act.eval, Array.getD_eq_getD_getElem?, Option.getD_some, e25, e26, e29, e30]; rfl)) ?_
    with_reducible refine (ih k (by omega) _ _ l0 _ _ l1 (rd (rd_L3 l1 a2) 0) t165 t184 _ ?side1 ?side2 ?side3 ?side4 A112.out).mono ?_
    (case side1 => exact Kd.C_w HR0 HB)
    (case side2 => exact HC0.out)
    (case side3 => exact Kd.C_w HR1 HB)
    (case side4 => exact HC1.out)
    rintro e w146 ⟨rfl, hb⟩
    refine ⟨_, rfl, ?_⟩
    have n0_ := Aside0.mk (blk_below (kp_ BK164) hb)
    have n1_ := Aside0.mk (below_step (hb_ HB) hb)
    have z_HO187 := fun (h0_ : b 8 = true) => (show Kd.R Kd.string 9 w146 w.heap.size (fun _ => True) v186 y185 from by first | exact (Kd.R_below (Kd.R_pp ((Q_HO187 h0_))) hb) | exact Kd.R_mono (Kd.R_below (Kd.R_pp ((Q_HO187 h0_))) hb) (fun _ h_ => by first | trivial | exact h_ | exact h_.1))
    clear BK164
    clear HB
    have BK164 := n0_
    have HB := n1_
    clear n0_ n1_
    refine hK.out _ _ ⟨v186, adz_v186, m12_, (by rw [ha.out]; exact putSel_upk 2 hbq_ rfl rfl rfl), (kp_ BK164), (hb_ HB), z_HO187, Q_HA_HO187, Q_X12_⟩
   refine steps_cons ?_ ?_
   ·rintro b a w' ⟨v186, adz_v186, m12_, ha, Q_BK164, Q_HB, Q_HO187, Q_HA_HO187, Q_X12_⟩ hbq_ hon hoff
    refine ⟨_, rfl, fun K hK => ?_⟩
    have e31 : a.tmps[31]? = some (.string t184) := by rw [ha]; exact putSel_on (e := (6, 31, .string t184)) 2 rfl rfl (hon 6 (by kernel_rfl)) rfl
    replace ha := Aside0.mk ha
    have BK164 := Aside0.mk Q_BK164
    have HB := Aside0.mk Q_HB
    refine value_ (w1 := w') (v := .string (t184 ++ (⟨#[32]⟩ : ByteArray))) (by rfl) rfl ?_ ?_
    ·go_simp
     (try simp only [i64_w])
     try rfl
    refine hK.out _ _ ⟨v186, adz_v186, m12_, (by rw [ha.out]; exact putSel_upk 3 hbq_ rfl rfl rfl), Q_BK164, Q_HB, Q_HO187, Q_HA_HO187, Q_X12_⟩
   refine steps_cons ?_ ?_
   ·rintro b a w' ⟨v186, adz_v186, m12_, ha, Q_BK164, Q_HB, Q_HO187, Q_HA_HO187, Q_X12_⟩ hbq_ hon hoff
    refine ⟨_, rfl, fun K hK => ?_⟩
    replace ha := Aside0.mk ha
    have BK164 := Aside0.mk Q_BK164
    have HB := Aside0.mk Q_HB
    refine Kd.R_lit_step Kd.string _ 9 ?hg (N := 33) ?hd (xs := ([(⟨#[43]⟩ : ByteArray), (⟨#[45]⟩ : ByteArray), (⟨#[42]⟩ : ByteArray), (⟨#[47]⟩ : ByteArray)] : List ByteArray)) (inner := [.string (⟨#[43]⟩ : ByteArray), .string (⟨#[45]⟩ : ByteArray), .string (⟨#[42]⟩ : ByteArray), .string (⟨#[47]⟩ : ByteArray)]) (ok := fun _ => True) (okp := fun _ => True) ?hr ?hp (fun _ hk => hk) trivial (Below.refl _ _) (Nat.le_refl _) (by simp) ?_; (case hd => rfl); (case hg => rfl); (case hr => first | (go_simp; done) | (go_simp; rfl)); (case hp => exact (Reps.one (show Kd.M Kd.string _ _ _ (⟨#[43]⟩ : ByteArray) [.string (⟨#[43]⟩ : ByteArray)] from rfl) (Reps.one (show Kd.M Kd.string _ _ _ (⟨#[45]⟩ : ByteArray) [.string (⟨#[45]⟩ : ByteArray)] from rfl) (Reps.one (show Kd.M Kd.string _ _ _ (⟨#[42]⟩ : ByteArray) [.string (⟨#[42]⟩ : ByteArray)] from rfl) (Reps.one (show Kd.M Kd.string _ _ _ (⟨#[47]⟩ : ByteArray) [.string (⟨#[47]⟩ : ByteArray)] from rfl) (Reps.none _ _))))))
    intro v186 w146 ho147 hb hg_ hnew_
    clear hg_ hnew_
    (first | rw [← Ny185.out] at ho147 | (simp only [Int.reduceToNat] at ho147; rw [← Ny185.out] at ho147))
    have HO187 := Aside0.mk (Kd.R_lower ho147 (below_size (hb_ HB)))
    replace BK164 := Aside0.mk (blk_below (kp_ BK164) hb)
    replace HB := Aside0.mk (below_step (hb_ HB) hb)
    clear hb ho147
    obtain ⟨Ao148, co148, eo148⟩ := Kd.R_slice HO187.out
    subst eo148
    obtain ⟨ado148, fo148, _⟩ := Kd.at_string (Kd.R_reads' HO187.out).2.2 0 (by decide) (by rw [Ny185.out]; simp)
    cases fo148
    refine hK.out _ _ ⟨.slice (some ado148) y185.length co148, ado148, m12_, (by rw [ha.out]; exact putSel_upk 4 hbq_ rfl rfl rfl), (kp_ BK164), (hb_ HB), fun _ => (Kd.R_p HO187), fun _ => ⟨_, rfl⟩, fun h0_ => absurd ((hoff 12 (by kernel_rfl)).symm.trans h0_) (by decide)⟩
   refine steps_cons ?_ ?_
   ·rintro b a w' ⟨v186, adz_v186, m12_, ha, Q_BK164, Q_HB, Q_HO187, Q_HA_HO187, Q_X12_⟩ hbq_ hon hoff
    refine ⟨_, rfl, fun K hK => ?_⟩
    have e34 : a.tmps[34]? = some (.pointer (some ⟨gb164, 0, none⟩)) := by rw [ha]; exact (putSel_off rfl).trans rfl
    replace ha := Aside0.mk ha
    have BK164 := Aside0.mk Q_BK164
    have HB := Aside0.mk Q_HB
    have hc0_ : w'.cell? ⟨gb164, 0, none⟩ = some (.int .i64 ((rd_T33 l0 a2).f0)) := (blk_cell BK164.out 0).trans rfl
    have hc1_ : w'.cell? ⟨gb164, 1, none⟩ = some (.int .i64 ((rd_T33 l0 a2).f1)) := (blk_cell BK164.out 1).trans rfl
    refine value_ (w1 := w') (v := .int .i64 ((rd_T33 l0 a2).f0)) (by rfl) rfl ?_ ?_
    ·go_simp
     (try simp only [i64_w])
     try rfl
    refine hK.out _ _ ⟨v186, adz_v186, m12_, (by rw [ha.out]; exact putSel_upk 5 hbq_ rfl rfl rfl), Q_BK164, Q_HB, Q_HO187, Q_HA_HO187, fun h0_ => absurd ((hoff 12 (by kernel_rfl)).symm.trans h0_) (by decide)⟩
   refine steps_cons ?_ ?_
   ·rintro b a w' ⟨v186, adz_v186, m12_, ha, Q_BK164, Q_HB, Q_HO187, Q_HA_HO187, Q_X12_⟩ hbq_ hon hoff
    refine ⟨_, rfl, fun K hK => ?_⟩
    have e35 : a.tmps[35]? = some (.int .i64 ((rd_T33 l0 a2).f0)) := by rw [ha]; exact putSel_on (e := (10, 35, .int .i64 ((rd_T33 l0 a2).f0))) 5 rfl rfl (hon 10 (by kernel_rfl)) rfl
    replace ha := Aside0.mk ha
    have BK164 := Aside0.mk Q_BK164
    have HB := Aside0.mk Q_HB
    refine value_ (w1 := w') (v := .int .i64 ji114) (by rfl) rfl ?_ ?_
    ·go_simp
     (try simp only [i64_w])
     try rfl
    refine hK.out _ _ ⟨v186, adz_v186, m12_, (by rw [ha.out]; exact putSel_upk 6 hbq_ rfl rfl rfl), Q_BK164, Q_HB, Q_HO187, Q_HA_HO187, fun h0_ => absurd ((hoff 12 (by kernel_rfl)).symm.trans h0_) (by decide)⟩
   refine steps_cons ?_ ?_
   ·rintro b a w' ⟨v186, adz_v186, m12_, ha, Q_BK164, Q_HB, Q_HO187, Q_HA_HO187, Q_X12_⟩ hbq_ hon hoff
    refine ⟨_, rfl, fun K hK => ?_⟩
    have e33 : a.tmps[33]? = some (v186) := by rw [ha]; exact putSel_on (e := (8, 33, v186)) 4 rfl rfl (hon 8 (by kernel_rfl)) rfl
    have e36 : a.tmps[36]? = some (.int .i64 ji114) := by rw [ha]; exact putSel_on (e := (11, 36, .int .i64 ji114)) 6 rfl rfl (hon 11 (by kernel_rfl)) rfl
    replace ha := Aside0.mk ha
    have BK164 := Aside0.mk Q_BK164
    have HB := Aside0.mk Q_HB
    have HO187 := Aside0.mk (Q_HO187 (hon 8 (by kernel_rfl)))
    have HA_HO187 := Aside0.mk (Q_HA_HO187 (hon 8 (by kernel_rfl)))
    obtain ⟨c_, hv_⟩ := HA_HO187.out
    rw [hv_] at e33
    refine value_ (w1 := w') (v := .pointer (some (adz_v186.add ((ji114)).toNat))) (by rfl) rfl ?_ ?_
    ·go_simp
     (try simp only [i64_w])
     try rfl
    refine hK.out _ _ ⟨v186, adz_v186, (.pointer (some (adz_v186.add ((ji114)).toNat))), (by rw [ha.out]; exact putSel_upk 7 hbq_ rfl rfl rfl), Q_BK164, Q_HB, Q_HO187, Q_HA_HO187, fun _ => rfl⟩
   refine steps_cons ?_ ?_
   ·rintro b a w' ⟨v186, adz_v186, m12_, ha, Q_BK164, Q_HB, Q_HO187, Q_HA_HO187, Q_X12_⟩ hbq_ hon hoff
    refine ⟨_, rfl, fun K hK => ?_⟩
    have e37 : a.tmps[37]? = some (m12_) := by rw [ha]; exact putSel_on (e := (12, 37, m12_)) 7 rfl rfl (hon 12 (by kernel_rfl)) rfl
    rw [Q_X12_ (hon 12 (by kernel_rfl))] at e37
    replace ha := Aside0.mk ha
    have BK164 := Aside0.mk Q_BK164
    have HB := Aside0.mk Q_HB
    have HO187 := Aside0.mk (Q_HO187 (hon 8 (by kernel_rfl)))
    have HA_HO187 := Aside0.mk (Q_HA_HO187 (hon 8 (by kernel_rfl)))
    obtain ⟨c_, hv_⟩ := HA_HO187.out
    have hF_ := HO187.out
    rw [hv_] at hF_
    obtain ⟨ad_, ea_, hx_⟩ := Kd.at_string (Kd.R_reads' hF_).2.2 (ji114) (of_eq_true pi188) (of_eq_true qi188)
    cases ea_
    refine value_ (w1 := w') (v := .string (rdOf ByteArray.empty y185 (ji114))) (by rfl) rfl ?_ ?_
    ·go_simp
     (try simp only [i64_w])
     try rfl
    refine hK.out _ _ ⟨v186, adz_v186, m12_, (by rw [ha.out]; exact putSel_upk 8 hbq_ rfl rfl rfl), Q_BK164, Q_HB, Q_HO187, Q_HA_HO187, Q_X12_⟩
   refine steps_cons ?_ ?_
   ·rintro b a w' ⟨v186, adz_v186, m12_, ha, Q_BK164, Q_HB, Q_HO187, Q_HA_HO187, Q_X12_⟩ hbq_ hon hoff
    refine ⟨_, rfl, fun K hK => ?_⟩
    have e32 : a.tmps[32]? = some (.string (t184 ++ (⟨#[32]⟩ : ByteArray))) := by rw [ha]; exact putSel_on (e := (7, 32, .string (t184 ++ (⟨#[32]⟩ : ByteArray)))) 3 rfl rfl (hon 7 (by kernel_rfl)) rfl
    have e38 : a.tmps[38]? = some (.string (rdOf ByteArray.empty y185 (ji114))) := by rw [ha]; exact putSel_on (e := (13, 38, .string (rdOf ByteArray.empty y185 (ji114)))) 8 rfl rfl (hon 13 (by kernel_rfl)) rfl
    replace ha := Aside0.mk ha
    have BK164 := Aside0.mk Q_BK164
    have HB := Aside0.mk Q_HB
    have HO187 := Aside0.mk (Q_HO187 (hon 8 (by kernel_rfl)))
    have HA_HO187 := Aside0.mk (Q_HA_HO187 (hon 8 (by kernel_rfl)))
    refine value_ (w1 := w') (v := .string ((t184 ++ (⟨#[32]⟩ : ByteArray)) ++ (rdOf ByteArray.empty y185 (ji114)))) (by rfl) rfl ?_ ?_
    ·go_simp
     (try simp only [i64_w])
     try rfl
    refine hK.out _ _ ⟨v186, adz_v186, m12_, (by rw [ha.out]; exact putSel_upk 9 hbq_ rfl rfl rfl), Q_BK164, Q_HB, Q_HO187, Q_HA_HO187, Q_X12_⟩
   refine steps_cons ?_ ?_
   ·rintro b a w' ⟨v186, adz_v186, m12_, ha, Q_BK164, Q_HB, Q_HO187, Q_HA_HO187, Q_X12_⟩ hbq_ hon hoff
    refine ⟨_, rfl, fun K hK => ?_⟩
    have e39 : a.tmps[39]? = some (.string ((t184 ++ (⟨#[32]⟩ : ByteArray)) ++ (rdOf ByteArray.empty y185 (ji114)))) := by rw [ha]; exact putSel_on (e := (14, 39, .string ((t184 ++ (⟨#[32]⟩ : ByteArray)) ++ (rdOf ByteArray.empty y185 (ji114))))) 9 rfl rfl (hon 14 (by kernel_rfl)) rfl
    replace ha := Aside0.mk ha
    have BK164 := Aside0.mk Q_BK164
    have HB := Aside0.mk Q_HB
    have HO187 := Aside0.mk (Q_HO187 (hon 8 (by kernel_rfl)))
    have HA_HO187 := Aside0.mk (Q_HA_HO187 (hon 8 (by kernel_rfl)))
    refine value_ (w1 := w') (v := .string (((t184 ++ (⟨#[32]⟩ : ByteArray)) ++ (rdOf ByteArray.empty y185 (ji114))) ++ (⟨#[32]⟩ : ByteArray))) (by rfl) rfl ?_ ?_
    ·go_simp
     (try simp only [i64_w])
     try rfl
    refine hK.out _ _ ⟨v186, adz_v186, m12_, (by rw [ha.out]; exact putSel_upk 10 hbq_ rfl rfl rfl), Q_BK164, Q_HB, Q_HO187, Q_HA_HO187, Q_X12_⟩
   refine steps_cons ?_ ?_
   ·rintro b a w' ⟨v186, adz_v186, m12_, ha, Q_BK164, Q_HB, Q_HO187, Q_HA_HO187, Q_X12_⟩ hbq_ hon hoff
    refine ⟨_, rfl, fun K hK => ?_⟩
    have e43 : a.tmps[43]? = some (.slice (some ad183) (rd_L3 l1 a2).length c163_0) := by rw [ha]; exact (putSel_off rfl).trans rfl
    replace ha := Aside0.mk ha
    have BK164 := Aside0.mk Q_BK164
    have HB := Aside0.mk Q_HB
    have hs1_ : w'.cell? ⟨ad183.block, ad183.off + 1, none⟩ = some (.int .i64 (rd (rd_L3 l1 a2) 1)) := ((HB.out.cell (World.block_lt_of_cell? w _ hw189_0)).trans hw189_0)
    refine value_ (w1 := w') (v := .pointer (some (ad183.add 1))) (by rfl) rfl ?_ ?_
    ·go_simp
     (try simp only [i64_w])
     try rfl
    refine hK.out _ _ ⟨v186, adz_v186, m12_, (by rw [ha.out]; exact putSel_upk 11 hbq_ rfl rfl rfl), Q_BK164, Q_HB, Q_HO187, Q_HA_HO187, Q_X12_⟩
   refine steps_cons ?_ ?_
   ·rintro b a w' ⟨v186, adz_v186, m12_, ha, Q_BK164, Q_HB, Q_HO187, Q_HA_HO187, Q_X12_⟩ hbq_ hon hoff
    refine ⟨_, rfl, fun K hK => ?_⟩
    have e44 : a.tmps[44]? = some (.pointer (some (ad183.add 1))) := by rw [ha]; exact putSel_on (e := (19, 44, .pointer (some (ad183.add 1)))) 11 rfl rfl (hon 19 (by kernel_rfl)) rfl
    replace ha := Aside0.mk ha
    have BK164 := Aside0.mk Q_BK164
    have HB := Aside0.mk Q_HB
    have hs1_ : w'.cell? ⟨ad183.block, ad183.off + 1, none⟩ = some (.int .i64 (rd (rd_L3 l1 a2) 1)) := ((HB.out.cell (World.block_lt_of_cell? w _ hw189_0)).trans hw189_0)
    refine value_ (w1 := w') (v := .int .i64 (rd (rd_L3 l1 a2) 1)) (by rfl) rfl ?_ ?_
    ·go_simp
     (try simp only [i64_w])
     try rfl
    refine hK.out _ _ ⟨v186, adz_v186, m12_, (by rw [ha.out]; exact putSel_upk 12 hbq_ rfl rfl rfl), Q_BK164, Q_HB, Q_HO187, Q_HA_HO187, Q_X12_⟩
   refine steps_cons ?_ ?_
   ·rintro b a w' ⟨v186, adz_v186, m12_, ha, Q_BK164, Q_HB, Q_HO187, Q_HA_HO187, Q_X12_⟩ hbq_ hon hoff
    refine ⟨_, rfl, fun K hK => ?_⟩
    have e46 : a.tmps[46]? = some (.int .i64 t165) := by rw [ha]; exact (putSel_off rfl).trans rfl
    replace ha := Aside0.mk ha
    have BK164 := Aside0.mk Q_BK164
    have HB := Aside0.mk Q_HB
    refine value_ (w1 := w') (v := .int .i64 (wrap64 (t165 + 1))) (by rfl) rfl ?_ ?_
    ·go_simp
     (try simp only [i64_w])
     try rfl
    refine hK.out _ _ ⟨v186, adz_v186, m12_, (by rw [ha.out]; exact putSel_upk 13 hbq_ rfl rfl rfl), Q_BK164, Q_HB, Q_HO187, Q_HA_HO187, Q_X12_⟩
   refine steps_cons ?_ ?_
   ·rintro b a w' ⟨v186, adz_v186, m12_, ha, Q_BK164, Q_HB, Q_HO187, Q_HA_HO187, Q_X12_⟩ hbq_ hon hoff
    refine ⟨_, rfl, fun K hK => ?_⟩
    have e41 : a.tmps[41]? = some (.slice (some ad162) l0.length c0) := by rw [ha]; exact (putSel_off rfl).trans rfl
    have e42 : a.tmps[42]? = some (.slice (some ad163) l1.length c1) := by rw [ha]; exact (putSel_off rfl).trans rfl
    have e45 : a.tmps[45]? = some (.int .i64 (rd (rd_L3 l1 a2) 1)) := by rw [ha]; exact putSel_on (e := (20, 45, .int .i64 (rd (rd_L3 l1 a2) 1))) 12 rfl rfl (hon 20 (by kernel_rfl)) rfl
    have e47 : a.tmps[47]? = some (.int .i64 (wrap64 (t165 + 1))) := by rw [ha]; exact putSel_on (e := (22, 47, .int .i64 (wrap64 (t165 + 1)))) 13 rfl rfl (hon 22 (by kernel_rfl)) rfl
    replace ha := Aside0.mk ha
    have BK164 := Aside0.mk Q_BK164
    have HB := Aside0.mk Q_HB
    refine goes_ Tryd.func18 (by kernel_rfl) rfl #[.slice (some ad162) l0.length c0, .slice (some ad163) l1.length c1, .int .i64 (rd (rd_L3 l1 a2) 1), .int .i64 (wrap64 (t165 + 1))] (by rfl) rfl rfl (by first | (simp only [List.map_toArray, List.map_cons, List.map_nil, Act.eval, Array.getD_eq_getD_getElem?, Option.getD_some, e41, e42, e45, e47]; done) | (simp only [List.map_toArray, List.map_cons, List.map_nil, Act.eval, Array.getD_eq_getD_getElem?, Option.getD_some, e41, e42, e45, e47]; rfl)) ?_
    with_reducible refine (ih k (by omega) _ _ l0 _ _ l1 (rd (rd_L3 l1 a2) 1) (wrap64 (t165 + 1)) t190 _ ?side1 ?side2 ?side3 ?side4 A120.out).mono ?_
    (case side1 => exact Kd.C_w HR0 HB)
    (case side2 => exact HC0.out)
    (case side3 => exact Kd.C_w HR1 HB)
    (case side4 => exact HC1.out)
    rintro e w148 ⟨rfl, hb⟩
    refine ⟨_, rfl, ?_⟩
    have n0_ := Aside0.mk (blk_below (kp_ BK164) hb)
    have n1_ := Aside0.mk (below_step (hb_ HB) hb)
    have z_HO187 := fun (h0_ : b 8 = true) => (show Kd.R Kd.string 9 w148 w.heap.size (fun _ => True) v186 y185 from by first | exact (Kd.R_below (Kd.R_pp ((Q_HO187 h0_))) hb) | exact Kd.R_mono (Kd.R_below (Kd.R_pp ((Q_HO187 h0_))) hb) (fun _ h_ => by first | trivial | exact h_ | exact h_.1))
    clear BK164
    clear HB
    have BK164 := n0_
    have HB := n1_
    clear n0_ n1_
    refine hK.out _ _ ⟨v186, adz_v186, m12_, (by rw [ha.out]; exact putSel_upk 14 hbq_ rfl rfl rfl), (kp_ BK164), (hb_ HB), z_HO187, Q_HA_HO187, Q_X12_⟩
   refine steps_cons ?_ ?_
   ·rintro b a w' ⟨v186, adz_v186, m12_, ha, Q_BK164, Q_HB, Q_HO187, Q_HA_HO187, Q_X12_⟩ hbq_ hon hoff
    refine ⟨_, rfl, fun K hK => ?_⟩
    have e40 : a.tmps[40]? = some (.string (((t184 ++ (⟨#[32]⟩ : ByteArray)) ++ (rdOf ByteArray.empty y185 (ji114))) ++ (⟨#[32]⟩ : ByteArray))) := by rw [ha]; exact putSel_on (e := (15, 40, .string (((t184 ++ (⟨#[32]⟩ : ByteArray)) ++ (rdOf ByteArray.empty y185 (ji114))) ++ (⟨#[32]⟩ : ByteArray)))) 10 rfl rfl (hon 15 (by kernel_rfl)) rfl
    have e48 : a.tmps[48]? = some (.string t190) := by rw [ha]; exact putSel_on (e := (23, 48, .string t190)) 14 rfl rfl (hon 23 (by kernel_rfl)) rfl
    replace ha := Aside0.mk ha
    have BK164 := Aside0.mk Q_BK164
    have HB := Aside0.mk Q_HB
    have HO187 := Aside0.mk (Q_HO187 (hon 8 (by kernel_rfl)))
    have HA_HO187 := Aside0.mk (Q_HA_HO187 (hon 8 (by kernel_rfl)))
    refine value_ (w1 := w') (v := .string ((((t184 ++ (⟨#[32]⟩ : ByteArray)) ++ (rdOf ByteArray.empty y185 (ji114))) ++ (⟨#[32]⟩ : ByteArray)) ++ t190)) (by rfl) rfl ?_ ?_
    ·go_simp
     (try simp only [i64_w])
     try rfl
    refine hK.out _ _ ⟨v186, adz_v186, m12_, (by rw [ha.out]; exact putSel_upk 15 hbq_ rfl rfl rfl), Q_BK164, Q_HB, Q_HO187, Q_HA_HO187, Q_X12_⟩
   refine steps_cons ?_ ?_
   ·rintro b a w' ⟨v186, adz_v186, m12_, ha, Q_BK164, Q_HB, Q_HO187, Q_HA_HO187, Q_X12_⟩ hbq_ hon hoff
    refine ⟨_, rfl, fun K hK => ?_⟩
    have e49 : a.tmps[49]? = some (.string ((((t184 ++ (⟨#[32]⟩ : ByteArray)) ++ (rdOf ByteArray.empty y185 (ji114))) ++ (⟨#[32]⟩ : ByteArray)) ++ t190)) := by rw [ha]; exact putSel_on (e := (24, 49, .string ((((t184 ++ (⟨#[32]⟩ : ByteArray)) ++ (rdOf ByteArray.empty y185 (ji114))) ++ (⟨#[32]⟩ : ByteArray)) ++ t190))) 15 rfl rfl (hon 24 (by kernel_rfl)) rfl
    replace ha := Aside0.mk ha
    have BK164 := Aside0.mk Q_BK164
    have HB := Aside0.mk Q_HB
    have HO187 := Aside0.mk (Q_HO187 (hon 8 (by kernel_rfl)))
    have HA_HO187 := Aside0.mk (Q_HA_HO187 (hon 8 (by kernel_rfl)))
    refine value_ (w1 := w') (v := .string ((((t184 ++ (⟨#[32]⟩ : ByteArray)) ++ (rdOf ByteArray.empty y185 (ji114))) ++ (⟨#[32]⟩ : ByteArray)) ++ t190)) (by rfl) rfl ?_ ?_
    ·go_simp
     (try simp only [i64_w])
     try rfl
    refine hK.out _ _ ⟨v186, adz_v186, m12_, (by rw [ha.out]; exact putSel_upk 16 hbq_ rfl rfl rfl), Q_BK164, Q_HB, Q_HO187, Q_HA_HO187, Q_X12_⟩
   exact steps_nil
   )
   exact p15_
  rintro b a w151 hall ⟨v186, adz_v186, m12_, ha, Q_BK164, Q_HB, Q_HO187, Q_HA_HO187, Q_X12_⟩
  clear BK164 HB
  have hb3_ := hall 3 (by kernel_rfl)
  have hb4_ := hall 4 (by kernel_rfl)
  have hb6_ := hall 6 (by kernel_rfl)
  have hb7_ := hall 7 (by kernel_rfl)
  have hb8_ := hall 8 (by kernel_rfl)
  have hb10_ := hall 10 (by kernel_rfl)
  have hb11_ := hall 11 (by kernel_rfl)
  have hb12_ := hall 12 (by kernel_rfl)
  have hb13_ := hall 13 (by kernel_rfl)
  have hb14_ := hall 14 (by kernel_rfl)
  have hb15_ := hall 15 (by kernel_rfl)
  have hb19_ := hall 19 (by kernel_rfl)
  have hb20_ := hall 20 (by kernel_rfl)
  have hb22_ := hall 22 (by kernel_rfl)
  have hb23_ := hall 23 (by kernel_rfl)
  have hb24_ := hall 24 (by kernel_rfl)
  have hb25_ := hall 25 (by kernel_rfl)
  subst ha
  obtain rfl := Q_X12_ hb12_
  simp only [putSel, hb3_, hb4_, hb6_, hb7_, hb8_, hb10_, hb11_, hb12_, hb13_, hb14_, hb15_, hb19_, hb20_, hb22_, hb23_, hb24_, hb25_, if_true, Act.put, List.setIfInBounds_toArray, List.set_cons_zero, List.set_cons_succ]
  have BK164 := Aside0.mk Q_BK164
  clear Q_BK164
  have HB := Aside0.mk Q_HB
  clear Q_HB
  have HO187 := Aside0.mk (Q_HO187 hb8_)
  clear Q_HO187
  have HA_HO187 := Aside0.mk (Q_HA_HO187 hb8_)
  clear Q_HA_HO187
  clear hall hb3_ hb4_ hb6_ hb7_ hb8_ hb10_ hb11_ hb12_ hb13_ hb14_ hb15_ hb19_ hb20_ hb22_ hb23_ hb24_ hb25_
  obtain ⟨co152, eo152⟩ := HA_HO187.out
  clear HA_HO187
  subst eo152
  try go_wp2
  go_ret
  exact ⟨by first | rfl | (simp [errW_none, errW_some] <;> rfl) | (simp only [← hji114]; first | rfl | (simp [errW_none, errW_some] <;> rfl)) | (simp [*, errW_none, errW_some] <;> rfl), hb_ HB⟩
  )
  exact p14_
 ·rw [if_neg c115] at H
  exact absurd H (by simp)
 )
 exact p11_

end Go.Proofs.YtikdododhkljeaaDoor.PFnExactRuleText
