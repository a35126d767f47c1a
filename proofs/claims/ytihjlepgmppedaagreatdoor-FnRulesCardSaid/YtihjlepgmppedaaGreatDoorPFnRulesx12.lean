-- Laid for this claim by wip/tools/print2.sh, a changed copy of the kit's print (wip/tools/patch_print.py): not by print.sh. Changed by wip/fix/strsize.py. Changed by wip/fix/rushow.py.
import Derived.Test.YtihjlepgmppedaaGreatDoorPFnRulesx11
import Derived.Test.YtihjlepgmppedaaGreatDoorVFnRules
namespace Go.Proofs.YtihjlepgmppedaaGreatDoor.PFnRules
open Go.RowKit Go.Proofs.YtihjlepgmppedaaGreatDoorW.PrintWords Go.Proofs.YtihjlepgmppedaaGreatDoorW.PrintLast Go.Proofs.YtihjlepgmppedaaGreatDoorW.PrintMore
set_option linter.unusedVariables false
set_option linter.unusedSimpArgs false

theorem addS_ {P : Program} {md : Region.Mode} {ops : Array Oper} {Q : Exit → Act → World → Prop} {S E : World → Prop} : ∀ {fuel : Nat} {l : Array Bool} {a : Act} {w : World}, S w → E w → wpAnyLast P md ops Q (fun w => E w ∧ S w) [] fuel l a w → wpAnyLast P md ops Q S [] fuel l a w
 | 0, _, _, _, _, _, h => h
 | fuel + 1, _, _, _, hS, hE, h => ⟨h.1, fun i hi => wpOp_mono (fun a' w' h' => ⟨fun hn hs => (h'.1 hn ⟨hE, hs⟩).2, addS_ (h'.1 (by simp) ⟨hE, hS⟩).2 (h'.1 (by simp) ⟨hE, hS⟩).1 h'.2⟩) (h.2 i hi)⟩
/-! ### spec_ruShow: function 47 -/
def spec_ruShow.f : Nat → List (S73) → List (List Int) → Int → Int → Option (ByteArray)
 | 0, _, _, _, _ => none
 | k + 1, l0, l1, a2, a3 => if 0 ≤ a2 then (if a2 < (l0.length : Int) then (if a2 < (l1.length : Int) then ((spec_ruLevel.f ((rd_T73 l0 a2).f0)).bind fun t394 => (if t394 = 3 then ((spec_l1Num.f k ((rd_T73 l0 a2).f1)).bind fun t395 => (if ((rd_T73 l0 a2).f0) = 1 then ((spec_ruFields.f).bind fun t396 => (if 0 ≤ ((rd_T73 l0 a2).f1) then (if ((rd_T73 l0 a2).f1) < (t396.length : Int) then (if t394 < a3 then (if 2 + (rdOf ByteArray.empty t396 ((rd_T73 l0 a2).f1)).size ≤ 9223372036854775807 then (if ((⟨#[40, 32]⟩ : ByteArray) ++ (rdOf ByteArray.empty t396 ((rd_T73 l0 a2).f1))).size + 2 ≤ 9223372036854775807 then (some (((⟨#[40, 32]⟩ : ByteArray) ++ (rdOf ByteArray.empty t396 ((rd_T73 l0 a2).f1))) ++ (⟨#[32, 41]⟩ : ByteArray))) else (none)) else (none)) else (some (rdOf ByteArray.empty t396 ((rd_T73 l0 a2).f1)))) else (none)) else (none))) else (if t394 < a3 then (if 2 + t395.size ≤ 9223372036854775807 then (if ((⟨#[40, 32]⟩ : ByteArray) ++ t395).size + 2 ≤ 9223372036854775807 then (some (((⟨#[40, 32]⟩ : ByteArray) ++ t395) ++ (⟨#[32, 41]⟩ : ByteArray))) else (none)) else (none)) else (some t395)))) else (if t394 = 0 then (if 0 < ((rd_L3 l1 a2).length : Int) then ((spec_ruShow.f k l0 l1 (rd (rd_L3 l1 a2) 0) 1).bind fun t401 => (if 3 + t401.size ≤ 9223372036854775807 then (if ((⟨#[105, 102, 32]⟩ : ByteArray) ++ t401).size + 1 ≤ 9223372036854775807 then ((some (([⟨#[60]⟩, ⟨#[61]⟩, ⟨#[62]⟩] : List ByteArray) : List ByteArray)).bind fun y402 => (if 0 ≤ (wrap64 (((rd_T73 l0 a2).f0) - 6)) then (if (wrap64 (((rd_T73 l0 a2).f0) - 6)) < (y402.length : Int) then (if (((⟨#[105, 102, 32]⟩ : ByteArray) ++ t401) ++ (⟨#[32]⟩ : ByteArray)).size + (rdOf ByteArray.empty y402 (wrap64 (((rd_T73 l0 a2).f0) - 6))).size ≤ 9223372036854775807 then (if ((((⟨#[105, 102, 32]⟩ : ByteArray) ++ t401) ++ (⟨#[32]⟩ : ByteArray)) ++ (rdOf ByteArray.empty y402 (wrap64 (((rd_T73 l0 a2).f0) - 6)))).size + 1 ≤ 9223372036854775807 then (if 1 < ((rd_L3 l1 a2).length : Int) then ((spec_ruShow.f k l0 l1 (rd (rd_L3 l1 a2) 1) 1).bind fun t407 => (if (((((⟨#[105, 102, 32]⟩ : ByteArray) ++ t401) ++ (⟨#[32]⟩ : ByteArray)) ++ (rdOf ByteArray.empty y402 (wrap64 (((rd_T73 l0 a2).f0) - 6)))) ++ (⟨#[32]⟩ : ByteArray)).size + t407.size ≤ 9223372036854775807 then (if ((((((⟨#[105, 102, 32]⟩ : ByteArray) ++ t401) ++ (⟨#[32]⟩ : ByteArray)) ++ (rdOf ByteArray.empty y402 (wrap64 (((rd_T73 l0 a2).f0) - 6)))) ++ (⟨#[32]⟩ : ByteArray)) ++ t407).size + 6 ≤ 9223372036854775807 then (if 2 < ((rd_L3 l1 a2).length : Int) then ((spec_ruShow.f k l0 l1 (rd (rd_L3 l1 a2) 2) 0).bind fun t409 => (if (((((((⟨#[105, 102, 32]⟩ : ByteArray) ++ t401) ++ (⟨#[32]⟩ : ByteArray)) ++ (rdOf ByteArray.empty y402 (wrap64 (((rd_T73 l0 a2).f0) - 6)))) ++ (⟨#[32]⟩ : ByteArray)) ++ t407) ++ (⟨#[32, 116, 104, 101, 110, 32]⟩ : ByteArray)).size + t409.size ≤ 9223372036854775807 then (if ((((((((⟨#[105, 102, 32]⟩ : ByteArray) ++ t401) ++ (⟨#[32]⟩ : ByteArray)) ++ (rdOf ByteArray.empty y402 (wrap64 (((rd_T73 l0 a2).f0) - 6)))) ++ (⟨#[32]⟩ : ByteArray)) ++ t407) ++ (⟨#[32, 116, 104, 101, 110, 32]⟩ : ByteArray)) ++ t409).size + 6 ≤ 9223372036854775807 then (if 3 < ((rd_L3 l1 a2).length : Int) then ((spec_ruShow.f k l0 l1 (rd (rd_L3 l1 a2) 3) 0).bind fun t411 => (if (((((((((⟨#[105, 102, 32]⟩ : ByteArray) ++ t401) ++ (⟨#[32]⟩ : ByteArray)) ++ (rdOf ByteArray.empty y402 (wrap64 (((rd_T73 l0 a2).f0) - 6)))) ++ (⟨#[32]⟩ : ByteArray)) ++ t407) ++ (⟨#[32, 116, 104, 101, 110, 32]⟩ : ByteArray)) ++ t409) ++ (⟨#[32, 101, 108, 115, 101, 32]⟩ : ByteArray)).size + t411.size ≤ 9223372036854775807 then (if t394 < a3 then (if 2 + ((((((((((⟨#[105, 102, 32]⟩ : ByteArray) ++ t401) ++ (⟨#[32]⟩ : ByteArray)) ++ (rdOf ByteArray.empty y402 (wrap64 (((rd_T73 l0 a2).f0) - 6)))) ++ (⟨#[32]⟩ : ByteArray)) ++ t407) ++ (⟨#[32, 116, 104, 101, 110, 32]⟩ : ByteArray)) ++ t409) ++ (⟨#[32, 101, 108, 115, 101, 32]⟩ : ByteArray)) ++ t411).size ≤ 9223372036854775807 then (if ((⟨#[40, 32]⟩ : ByteArray) ++ ((((((((((⟨#[105, 102, 32]⟩ : ByteArray) ++ t401) ++ (⟨#[32]⟩ : ByteArray)) ++ (rdOf ByteArray.empty y402 (wrap64 (((rd_T73 l0 a2).f0) - 6)))) ++ (⟨#[32]⟩ : ByteArray)) ++ t407) ++ (⟨#[32, 116, 104, 101, 110, 32]⟩ : ByteArray)) ++ t409) ++ (⟨#[32, 101, 108, 115, 101, 32]⟩ : ByteArray)) ++ t411)).size + 2 ≤ 9223372036854775807 then (some (((⟨#[40, 32]⟩ : ByteArray) ++ ((((((((((⟨#[105, 102, 32]⟩ : ByteArray) ++ t401) ++ (⟨#[32]⟩ : ByteArray)) ++ (rdOf ByteArray.empty y402 (wrap64 (((rd_T73 l0 a2).f0) - 6)))) ++ (⟨#[32]⟩ : ByteArray)) ++ t407) ++ (⟨#[32, 116, 104, 101, 110, 32]⟩ : ByteArray)) ++ t409) ++ (⟨#[32, 101, 108, 115, 101, 32]⟩ : ByteArray)) ++ t411)) ++ (⟨#[32, 41]⟩ : ByteArray))) else (none)) else (none)) else (some ((((((((((⟨#[105, 102, 32]⟩ : ByteArray) ++ t401) ++ (⟨#[32]⟩ : ByteArray)) ++ (rdOf ByteArray.empty y402 (wrap64 (((rd_T73 l0 a2).f0) - 6)))) ++ (⟨#[32]⟩ : ByteArray)) ++ t407) ++ (⟨#[32, 116, 104, 101, 110, 32]⟩ : ByteArray)) ++ t409) ++ (⟨#[32, 101, 108, 115, 101, 32]⟩ : ByteArray)) ++ t411))) else (none))) else (none)) else (none)) else (none))) else (none)) else (none)) else (none))) else (none)) else (none)) else (none)) else (none)) else (none))) else (none)) else (none))) else (none)) else (if 0 < ((rd_L3 l1 a2).length : Int) then ((spec_ruShow.f k l0 l1 (rd (rd_L3 l1 a2) 0) t394).bind fun t413 => (if t413.size + 1 ≤ 9223372036854775807 then ((some (([⟨#[43]⟩, ⟨#[45]⟩, ⟨#[42]⟩, ⟨#[47]⟩] : List ByteArray) : List ByteArray)).bind fun y414 => (if 0 ≤ (wrap64 (((rd_T73 l0 a2).f0) - 2)) then (if (wrap64 (((rd_T73 l0 a2).f0) - 2)) < (y414.length : Int) then (if (t413 ++ (⟨#[32]⟩ : ByteArray)).size + (rdOf ByteArray.empty y414 (wrap64 (((rd_T73 l0 a2).f0) - 2))).size ≤ 9223372036854775807 then (if ((t413 ++ (⟨#[32]⟩ : ByteArray)) ++ (rdOf ByteArray.empty y414 (wrap64 (((rd_T73 l0 a2).f0) - 2)))).size + 1 ≤ 9223372036854775807 then (if 1 < ((rd_L3 l1 a2).length : Int) then ((spec_ruShow.f k l0 l1 (rd (rd_L3 l1 a2) 1) (wrap64 (t394 + 1))).bind fun t419 => (if (((t413 ++ (⟨#[32]⟩ : ByteArray)) ++ (rdOf ByteArray.empty y414 (wrap64 (((rd_T73 l0 a2).f0) - 2)))) ++ (⟨#[32]⟩ : ByteArray)).size + t419.size ≤ 9223372036854775807 then (if t394 < a3 then (if 2 + ((((t413 ++ (⟨#[32]⟩ : ByteArray)) ++ (rdOf ByteArray.empty y414 (wrap64 (((rd_T73 l0 a2).f0) - 2)))) ++ (⟨#[32]⟩ : ByteArray)) ++ t419).size ≤ 9223372036854775807 then (if ((⟨#[40, 32]⟩ : ByteArray) ++ ((((t413 ++ (⟨#[32]⟩ : ByteArray)) ++ (rdOf ByteArray.empty y414 (wrap64 (((rd_T73 l0 a2).f0) - 2)))) ++ (⟨#[32]⟩ : ByteArray)) ++ t419)).size + 2 ≤ 9223372036854775807 then (some (((⟨#[40, 32]⟩ : ByteArray) ++ ((((t413 ++ (⟨#[32]⟩ : ByteArray)) ++ (rdOf ByteArray.empty y414 (wrap64 (((rd_T73 l0 a2).f0) - 2)))) ++ (⟨#[32]⟩ : ByteArray)) ++ t419)) ++ (⟨#[32, 41]⟩ : ByteArray))) else (none)) else (none)) else (some ((((t413 ++ (⟨#[32]⟩ : ByteArray)) ++ (rdOf ByteArray.empty y414 (wrap64 (((rd_T73 l0 a2).f0) - 2)))) ++ (⟨#[32]⟩ : ByteArray)) ++ t419))) else (none))) else (none)) else (none)) else (none)) else (none)) else (none))) else (none))) else (none))))) else (none)) else (none)) else (none)
def spec_ruShow.T1 : Bool × List (List Nat × List Nat) := (true, [([], []), ([], []), ([0, 1], [0, 1]), ([2], [2]), ([], []), ([], []), ([4, 5], [4, 5]), ([6], [6]), ([], []), ([8, 3, 0, 1, 2, 3, 8], [3, 8]), ([7, 9, 0, 1, 2, 3, 4, 5, 6, 7, 8, 9], [7])])
def spec_ruShow.B1 : List Nat := [0, 0, 3, 7, 0, 0, 48, 112, 0, 271, 1023]
theorem spec_ruShow.tab1 : rtab .any (opsOf Tryz.f47 1) = spec_ruShow.T1 := by kernel_rfl
theorem spec_ruShow.bits1 : waitsOk spec_ruShow.T1.2 spec_ruShow.B1 = true := by kernel_rfl
def spec_ruShow.T5 : Bool × List (List Nat × List Nat) := (true, [([], []), ([], []), ([], []), ([2], [2]), ([3], [3]), ([], []), ([0, 1, 4, 5], [0, 1, 4, 5]), ([6], [6]), ([], []), ([], []), ([9], [9]), ([10], [10]), ([8, 11], [8, 11]), ([12], [12]), ([7, 13], [7, 13]), ([14], [14]), ([], []), ([], []), ([], []), ([18], [18]), ([19], [19]), ([], []), ([21], [21]), ([16, 17, 20, 22, 6], [16, 17, 20, 22]), ([15, 23], [15, 23]), ([24, 23, 0, 1, 2, 3, 4, 5, 6, 7, 8, 9, 10, 11, 12, 13, 14, 15, 16, 17, 18, 19, 20, 21, 22, 23, 24], [24])])
def spec_ruShow.B5 : List Nat := [0, 0, 0, 4, 12, 0, 63, 127, 0, 0, 512, 1536, 3840, 7936, 16383, 32767, 0, 0, 0, 262144, 786432, 0, 2097152, 8323199, 16777215, 33554431]
theorem spec_ruShow.tab5 : rtab .any (opsOf Tryz.f47 5) = spec_ruShow.T5 := by kernel_rfl
theorem spec_ruShow.bits5 : waitsOk spec_ruShow.T5.2 spec_ruShow.B5 = true := by kernel_rfl
def spec_ruShow.T11 : Bool × List (List Nat × List Nat) := (true, [([], []), ([], []), ([], []), ([2], [2]), ([3], [3]), ([0, 1, 4], [0, 1, 4]), ([5], [5]), ([6], [6]), ([], []), ([], []), ([9], [9]), ([10], [10]), ([8, 11], [8, 11]), ([12], [12]), ([7, 13], [7, 13]), ([14], [14]), ([], []), ([], []), ([], []), ([18], [18]), ([19], [19]), ([16, 17, 20, 5], [16, 17, 20]), ([15, 21], [15, 21]), ([22], [22]), ([], []), ([], []), ([], []), ([26], [26]), ([27], [27]), ([24, 25, 28, 21], [24, 25, 28]), ([23, 29], [23, 29]), ([30], [30]), ([], []), ([], []), ([], []), ([34], [34]), ([35], [35]), ([32, 33, 36, 29], [32, 33, 36]), ([31, 37], [31, 37]), ([38, 37, 0, 1, 2, 3, 4, 5, 6, 7, 8, 9, 10, 11, 12, 13, 14, 15, 16, 17, 18, 19, 20, 21, 22, 23, 24, 25, 26, 27, 28, 29, 30, 31, 32, 33, 34, 35, 36, 37, 38], [38])])
def spec_ruShow.B11 : List Nat := [0, 0, 0, 4, 12, 31, 63, 127, 0, 0, 512, 1536, 3840, 7936, 16383, 32767, 0, 0, 0, 262144, 786432, 2031679, 4194303, 8388607, 0, 0, 0, 67108864, 201326592, 524222527, 1073741823, 2147483647, 0, 0, 0, 17179869184, 51539607552, 134205079615, 274877906943, 549755813887]
theorem spec_ruShow.tab11 : rtab .any (opsOf Tryz.f47 11) = spec_ruShow.T11 := by kernel_rfl
theorem spec_ruShow.bits11 : waitsOk spec_ruShow.T11.2 spec_ruShow.B11 = true := by kernel_rfl
set_option maxHeartbeats 60000000 in
set_option maxRecDepth 100000 in
theorem spec_ruShow.calls (k : Nat) : ∀ (A0 : Option Addr) (c0 : Nat) (l0 : List (S73)) (A1 : Option Addr) (c1 : Nat) (l1 : List (List Int)) (a2 : Int) (a3 : Int) (r : ByteArray) (w : World) (hr0 : Kd.C k73 w A0 l0.length l0) (hc0 : l0.length ≤ c0) (hr1 : Kd.C (Kd.slice 3 (Kd.int .i64)) w A1 l1.length l1) (hc1 : l1.length ≤ c1) (h : spec_ruShow.f k l0 l1 a2 a3 = some r),
  Calls Tryz.prog 47 #[.slice A0 l0.length c0, .slice A1 l1.length c1, .int .i64 a2, .int .i64 a3] w fun e w' => e = .returned (.string r) ∧ Below w.heap.size w w' := by
 induction k using Nat.strongRecOn with
 | _ k ih =>
 intro A0 c0 l0 A1 c1 l1 a2 a3 r w hr0 hc0 hr1 hc1 h
 cases k with
 | zero => exact absurd h (by simp [spec_ruShow.f])
 | succ k =>
 simp only [spec_ruShow.f] at h
 have hu73 := Tryz.underlying73
 have HR0 := am_ hr0
 have HC0 := am_ hc0
 clear hr0 hc0
 have HR1 := am_ hr1
 have HC1 := am_ hc1
 clear hr1 hc1
 have HB := am_ (Below.refl w.heap.size w)
 have H := h
 clear h
 revert H; refine pd_ fun c5b0 H => ?_
 revert H; refine pd_ fun c6b0 H => ?_
 revert H; refine pd_ fun c7b0 H => ?_
 revert H; refine bn_ ?_; rintro t394 A8 H; try dsimp only at H
 by_cases c9 : t394 = 3
 ·rw [if_pos c9] at H
  have c9b0 : (t394 == 3) = true := beq_iff_eq.mpr c9
  have c9b1 : (t394 != 3) = false := bne_eq_false_iff_eq.mpr c9
  clear c9
  revert H; refine bn_ ?_; rintro t395 A10 H; try dsimp only at H
  by_cases c11 : ((rd_T73 l0 a2).f0) = 1
  ·rw [if_pos c11] at H
   have c11b0 : (((rd_T73 l0 a2).f0) == 1) = true := beq_iff_eq.mpr c11
   have c11b1 : (((rd_T73 l0 a2).f0) != 1) = false := bne_eq_false_iff_eq.mpr c11
   clear c11
   revert H; refine bn_ ?_; rintro t396 A12 H; try dsimp only at H
   revert H; refine pd_ fun c13b0 H => ?_
   revert H; refine pd_ fun c14b0 H => ?_
   by_cases c15 : t394 < a3
   ·rw [if_pos c15] at H
    have c15b0 := decide_eq_true c15
    clear c15
    revert H; refine pf_ fun c16 H => ?_
    have c16b0 := eq_true c16
    have c16b1 := decide_eq_true c16
    try have c16b2 : (9223372036854775807 < 2 + (rdOf ByteArray.empty t396 ((rd_T73 l0 a2).f1)).size) = False := eq_false (Nat.not_lt.2 c16)
    by_cases c17 : ((⟨#[40, 32]⟩ : ByteArray) ++ (rdOf ByteArray.empty t396 ((rd_T73 l0 a2).f1))).size + 2 ≤ 9223372036854775807
    case neg => rw [if_neg c17] at H; exact absurd H (by simp)
    refine ?z1_
    let rec p1_ : type_of% ?z1_ := by(
    rw [if_pos c17] at H
    have c17b0 := eq_true c17
    have c17b1 := decide_eq_true c17
    try have c17b2 : (9223372036854775807 < ((⟨#[40, 32]⟩ : ByteArray) ++ (rdOf ByteArray.empty t396 ((rd_T73 l0 a2).f1))).size + 2) = False := eq_false (Nat.not_lt.2 c17)
    have c17b3 : (9223372036854775807 < 2 + (rdOf ByteArray.empty t396 ((rd_T73 l0 a2).f1)).size + 2) = False := eq_false (Nat.not_lt.2 (by have h_ := c17; simp only [ByteArray.size_append] at h_; exact h_))
    obtain rfl := Option.some.inj H
    go_enter Tryz.func47, Tryz.ntmps47
    try go_wp2
    replace HB := am_ (below_drew1 HB.out)
    have p391 : 0 ≤ (a2 : Int) := od_
    have q391 : a2 < (l0.length : Int) := od_
    obtain ⟨ad391, e391, hx391_0, hx391_1⟩ := at_T73 HR0.out a2 p391 q391
    have hw391_1 := hx391_1
    have hw391_0 := hx391_0
    cases e391
    replace hx391_0 := hc_ HB hx391_0
    replace hx391_1 := hc_ HB hx391_1
    replace p391 := eq_true p391
    replace q391 := eq_true q391
    have p392 : 0 ≤ (a2 : Int) := od_
    have q392 : a2 < (l1.length : Int) := od_
    obtain ⟨ad392, A392_0, c392_0, e392, hx392_0, hl392_0, hi392_0⟩ := at_L3 HR1.out a2 p392 q392
    have hw392_0 := hx392_0
    cases e392
    replace hx392_0 := hc_ HB hx392_0
    have HR392_0 := am_ hi392_0
    have HC392_0 := am_ hl392_0
    clear hi392_0 hl392_0
    replace p392 := eq_true p392
    replace q392 := eq_true q392
    refine start_ (n := 11) (S := fun w' => w'.cell? (ad391.add ((a2).toNat * 2)) = some (.int .i64 ((rd_T73 l0 a2).f0)) ∧ w'.cell? ⟨(ad391.add ((a2).toNat * 2)).block, (ad391.add ((a2).toNat * 2)).off + 1, none⟩ = some (.int .i64 ((rd_T73 l0 a2).f1)) ∧ w'.cell? (ad392.add (a2).toNat) = some (.slice A392_0 (rd_L3 l1 a2).length c392_0)) (ds := []) (bb 11 0) (by kernel_rfl) rfl rfl ⟨(hcl_ HB hw391_0), (hcl_ HB hw391_1), (hcl_ HB hw392_0)⟩ (fun hHeld => ?_); refine with_tabW spec_ruShow.tab1 spec_ruShow.bits1 (fun HT_ HW_ => ?_)
    generalize w.drew = w18 at HB HR392_0 hx391_0 hx391_1 hx392_0 hHeld ⊢
    refine pm_ HT_ 0 13 11 1 ?_
    refine pm_ HT_ 1 14 11 3 ?_
    refine pm_ HT_ 2 15 11 7 ?_
    refine pm_ HT_ 4 17 11 23 ?_
    refine pm_ HT_ 5 18 11 55 ?_
    refine pm_ HT_ 6 19 11 119 ?_
    refine tk_ HT_ HW_ hHeld 3 (some 16) (bb 11 127) (h := ?_)
    refine tk_ HT_ HW_ hHeld 7 (some 20) (bb 11 255) (h := ?_)
    refine one_ (i := 8) (N := some 9) (bb 11 511) rfl rfl (one_of HT_.out (by kernel_rfl)) (by decide) (fun K hK => ?_)
    refine box_step ?hg (N := 9) ?hd (cs := #[.int .i64 0, .int .i64 0]) (t := 73) ?hr ?_; (case hd => rfl); (case hg => rfl); (case hr => first | (go_simp; done) | (go_simp; rfl))
    intro gb393 hg w19 hbox hb
    have n0_ := am_ (below_step (hb_ HB) hb)
    have n1_ := am_ (hbox)
    have n2_ := am_ ((by rw [hg]; exact (below_size (hb_ HB)) : w.heap.size ≤ gb393))
    have n3_ := am_ ((by rw [hg]; exact (below_size (hb_ HB)) : w.heap.size ≤ gb393))
    clear HB
    have HB := n0_
    have BK393 := n1_
    have GW393 := n2_
    have GE393 := n3_
    clear n0_ n1_ n2_ n3_
    clear hb hbox hg
    refine hK.out _ _ ⟨(hcl_ HB hw391_0), (hcl_ HB hw391_1), (hcl_ HB hw392_0)⟩ (fun hHeld => ?_)
    clear hK K
    refine nm_ (some 9) (h := ?_)
    refine one_ (i := 9) (N := none) (bb 11 1023) rfl rfl (one_of HT_.out (by kernel_rfl)) (by decide) (fun K hK => ?_)
    have hs20 : w19.cell? ⟨gb393, 0, none⟩ = some (.int .i64 0) := (blk_cell BK393.out 0).trans rfl
    have hfs20 := blk_frozen BK393.out 0
    have hs21 : w19.cell? ⟨gb393, 1, none⟩ = some (.int .i64 0) := (blk_cell BK393.out 1).trans rfl
    have hfs21 := blk_frozen BK393.out 1
    refine skip_ (w1 := ?_) (by rfl) rfl ?_ ?_
    rotate_left
    ·go_simp
     rfl
    refine hK.out _ _ ⟨((cfr_ hw391_0 GW393.out).trans (((cfr_ hw391_0 GW393.out).trans (hHeld.1)))), ((cfr_ hw391_1 GW393.out).trans (((cfr_ hw391_1 GW393.out).trans (hHeld.2.1)))), ((cfr_ hw392_0 GW393.out).trans (((cfr_ hw392_0 GW393.out).trans (hHeld.2.2))))⟩ (fun hHeld => ?_)
    clear hK K
    refine pm_ HT_ 10 10 11 2047 ?_
    refine done_ (done_of HT_.out (by kernel_rfl)) ?_
    obtain ⟨hcz22_0, hcz22_1, hfz22_0, hfz22_1⟩ := bx2 BK393
    try go_wp2_with (first | ((with_reducible refine gk_ 66 ?_); refine gq_ 23 Tryz.func66 #[.int .i64 ((rd_T73 l0 a2).f0)] ?_; (with_reducible refine (spec_ruLevel.calls ((rd_T73 l0 a2).f0) t394 _ A8.out).mono ?_); rintro e w' ⟨rfl, ⟨nd, rfl⟩⟩; refine ⟨_, rfl, ?_⟩) | ((with_reducible refine gk_ 67 ?_); refine gq_ 54 Tryz.func67 #[.int .i64 ((rd_T73 l0 a2).f1)] ?_; (with_reducible refine (spec_l1Num.calls k ((rd_T73 l0 a2).f1) t395 _ A10.out).mono ?_); rintro e w23 ⟨rfl, hb⟩; refine ⟨_, rfl, ?_⟩; replace BK393 := am_ (blk_below (g := gb393) (o := .cells #[.int .i64 ((rd_T73 l0 a2).f0), .int .i64 ((rd_T73 l0 a2).f1)] 73 (0, 0)) (kpq_ (kputs BK393 [(0, _), (1, _)])) hb); replace HB := hbs_ HB hb; obtain ⟨hcz24_0, hcz24_1, hfz24_0, hfz24_1⟩ := bx2 BK393))
    replace BK393 := am_ (blk_drew BK393.out)
    replace HB := am_ (below_drew1 HB.out)
    refine start_ (n := 6) (S := fun w' => w'.cell? ⟨gb393, 0, none⟩ = some (.int .i64 ((rd_T73 l0 a2).f0)) ∧ w'.cell? ⟨gb393, 1, none⟩ = some (.int .i64 ((rd_T73 l0 a2).f1))) (ds := []) (bb 6 0) (by kernel_rfl) rfl rfl ⟨(blk_cell BK393.out 0).trans rfl, (blk_cell BK393.out 1).trans rfl⟩ (fun hHeld => ?_)
    generalize w23.drew = w25 at BK393 HB hHeld ⊢
    refine pure_ (i := 1) (N := some 59) (v := ?_) (a' := ?_) (bb 6 2) rfl rfl (by kernel_rfl) (fun _ _ _ h => h) (Or.inl ⟨by rfl, ?_⟩) ?_ ?_
    rotate_left
    ·intro w'
     go_simp
     with_reducible rfl
    rotate_left
    ·simp only [Act.put, List.setIfInBounds_toArray, List.set_cons_zero, List.set_cons_succ, i64_w, i32_w]
     rfl
    refine take_ (i := 2) (N := some 60) (v := ?_) (a' := ?_) (bb 6 6) rfl rfl (by kernel_rfl) (fun _ _ _ h => h) (Or.inl ⟨by rfl, ?_⟩) hHeld ?_ ?_
    rotate_left
    ·rintro w' ⟨s0, s1⟩
     go_simp
     with_reducible rfl
    rotate_left
    ·simp only [Act.put, List.setIfInBounds_toArray, List.set_cons_zero, List.set_cons_succ, i64_w, i32_w]
     rfl
    refine one_ (i := 0) (N := some 58) (bb 6 7) rfl rfl (by kernel_rfl) (by decide) (fun K hK => ?_)
    refine goes_ Tryz.func48 (by kernel_rfl) rfl #[] (by rfl) rfl rfl (by (try simp only [List.map_toArray, List.map_cons, List.map_nil]); first | done | rfl | (simp only [List.length_drop, List.length_take]; rfl)) ?_
    with_reducible refine (spec_ruFields.calls  t396 _ A12.out).mono ?_
    rintro e w26 ⟨v397, rfl, ho0, hb⟩
    refine ⟨_, rfl, ?_⟩
    have HO398 := am_ (Kd.R_lower ho0 (below_size (hb_ HB)))
    replace BK393 := am_ (blk_below (kp_ BK393) hb)
    replace HB := am_ (below_step (hb_ HB) hb)
    obtain ⟨Ao27, co27, eo27⟩ := Kd.R_slice HO398.out
    (first | subst eo27 | (injection eo27 with f1_ f2_ f3_; have f4_ := f1_.symm; have f5_ := f3_.symm; clear f1_ f2_ f3_; subst f4_; subst f5_))
    have p399 : 0 ≤ (((rd_T73 l0 a2).f1) : Int) := od_
    have q399 : ((rd_T73 l0 a2).f1) < (t396.length : Int) := od_
    obtain ⟨ad399, e399, hx399_0⟩ := Kd.at_string (Kd.R_reads' HO398.out).2.2 ((rd_T73 l0 a2).f1) p399 q399
    cases e399
    replace p399 := eq_true p399
    replace q399 := eq_true q399
    refine hK.out _ _ ⟨(blk_cell BK393.out 0).trans rfl, (blk_cell BK393.out 1).trans rfl⟩ (fun hHeld => ?_)
    refine addS_ (E := fun w' => w'.cell? (ad399.add (((rd_T73 l0 a2).f1)).toNat) = some (.string (rdOf ByteArray.empty t396 ((rd_T73 l0 a2).f1)))) hHeld hx399_0 ?_
    have hHeld := And.intro hx399_0 hHeld
    clear hK K
    refine nm_ (some 58) (h := ?_)
    refine pure_ (i := 3) (N := some 61) (v := ?_) (a' := ?_) (bb 6 15) rfl rfl (by kernel_rfl) (fun _ _ _ h => h) (Or.inl ⟨by rfl, ?_⟩) ?_ ?_
    rotate_left
    ·intro w'
     go_simp
     with_reducible rfl
    rotate_left
    ·simp only [Act.put, List.setIfInBounds_toArray, List.set_cons_zero, List.set_cons_succ, i64_w, i32_w]
     rfl
    refine take_ (i := 4) (N := some 62) (v := ?_) (a' := ?_) (bb 6 31) rfl rfl (by kernel_rfl) (fun _ _ _ h => h) (Or.inl ⟨by rfl, ?_⟩) hHeld ?_ ?_
    rotate_left
    ·rintro w' ⟨s0, s1, s2⟩
     go_simp
     with_reducible rfl
    rotate_left
    ·simp only [Act.put, List.setIfInBounds_toArray, List.set_cons_zero, List.set_cons_succ, i64_w, i32_w]
     rfl
    refine pure_ (i := 5) (N := some 12) (v := ?_) (a' := ?_) (bb 6 63) rfl rfl (by kernel_rfl) (fun _ _ _ h => h) (Or.inl ⟨by rfl, ?_⟩) ?_ ?_
    rotate_left
    ·intro w'
     go_simp
     with_reducible rfl
    rotate_left
    ·simp only [Act.put, List.setIfInBounds_toArray, List.set_cons_zero, List.set_cons_succ, i64_w, i32_w]
     rfl
    refine done_ (by kernel_rfl) ?_
    try go_wp2
    go_ret
    exact ad_ (hb_ HB)
    )
    exact p1_
   refine ?z2_
   let rec p2_ : type_of% ?z2_ := by(
   rw [if_neg c15] at H
   have c15b0 := decide_eq_false c15
   clear c15
   obtain rfl := Option.some.inj H
   go_enter Tryz.func47, Tryz.ntmps47
   try go_wp2
   replace HB := am_ (below_drew1 HB.out)
   have p391 : 0 ≤ (a2 : Int) := od_
   have q391 : a2 < (l0.length : Int) := od_
   obtain ⟨ad391, e391, hx391_0, hx391_1⟩ := at_T73 HR0.out a2 p391 q391
   have hw391_1 := hx391_1
   have hw391_0 := hx391_0
   cases e391
   replace hx391_0 := hc_ HB hx391_0
   replace hx391_1 := hc_ HB hx391_1
   replace p391 := eq_true p391
   replace q391 := eq_true q391
   have p392 : 0 ≤ (a2 : Int) := od_
   have q392 : a2 < (l1.length : Int) := od_
   obtain ⟨ad392, A392_0, c392_0, e392, hx392_0, hl392_0, hi392_0⟩ := at_L3 HR1.out a2 p392 q392
   have hw392_0 := hx392_0
   cases e392
   replace hx392_0 := hc_ HB hx392_0
   have HR392_0 := am_ hi392_0
   have HC392_0 := am_ hl392_0
   clear hi392_0 hl392_0
   replace p392 := eq_true p392
   replace q392 := eq_true q392
   refine start_ (n := 11) (S := fun w' => w'.cell? (ad391.add ((a2).toNat * 2)) = some (.int .i64 ((rd_T73 l0 a2).f0)) ∧ w'.cell? ⟨(ad391.add ((a2).toNat * 2)).block, (ad391.add ((a2).toNat * 2)).off + 1, none⟩ = some (.int .i64 ((rd_T73 l0 a2).f1)) ∧ w'.cell? (ad392.add (a2).toNat) = some (.slice A392_0 (rd_L3 l1 a2).length c392_0)) (ds := []) (bb 11 0) (by kernel_rfl) rfl rfl ⟨(hcl_ HB hw391_0), (hcl_ HB hw391_1), (hcl_ HB hw392_0)⟩ (fun hHeld => ?_); refine with_tabW spec_ruShow.tab1 spec_ruShow.bits1 (fun HT_ HW_ => ?_)
   generalize w.drew = w28 at HB HR392_0 hx391_0 hx391_1 hx392_0 hHeld ⊢
   refine pm_ HT_ 0 13 11 1 ?_
   refine pm_ HT_ 1 14 11 3 ?_
   refine pm_ HT_ 2 15 11 7 ?_
   refine pm_ HT_ 4 17 11 23 ?_
   refine pm_ HT_ 5 18 11 55 ?_
   refine pm_ HT_ 6 19 11 119 ?_
   refine tk_ HT_ HW_ hHeld 3 (some 16) (bb 11 127) (h := ?_)
   refine tk_ HT_ HW_ hHeld 7 (some 20) (bb 11 255) (h := ?_)
   refine one_ (i := 8) (N := some 9) (bb 11 511) rfl rfl (one_of HT_.out (by kernel_rfl)) (by decide) (fun K hK => ?_)
   refine box_step ?hg (N := 9) ?hd (cs := #[.int .i64 0, .int .i64 0]) (t := 73) ?hr ?_; (case hd => rfl); (case hg => rfl); (case hr => first | (go_simp; done) | (go_simp; rfl))
   intro gb393 hg w29 hbox hb
   have n0_ := am_ (below_step (hb_ HB) hb)
   have n1_ := am_ (hbox)
   have n2_ := am_ ((by rw [hg]; exact (below_size (hb_ HB)) : w.heap.size ≤ gb393))
   have n3_ := am_ ((by rw [hg]; exact (below_size (hb_ HB)) : w.heap.size ≤ gb393))
   clear HB
   have HB := n0_
   have BK393 := n1_
   have GW393 := n2_
   have GE393 := n3_
   clear n0_ n1_ n2_ n3_
   clear hb hbox hg
   refine hK.out _ _ ⟨(hcl_ HB hw391_0), (hcl_ HB hw391_1), (hcl_ HB hw392_0)⟩ (fun hHeld => ?_)
   clear hK K
   refine nm_ (some 9) (h := ?_)
   refine one_ (i := 9) (N := none) (bb 11 1023) rfl rfl (one_of HT_.out (by kernel_rfl)) (by decide) (fun K hK => ?_)
   have hs30 : w29.cell? ⟨gb393, 0, none⟩ = some (.int .i64 0) := (blk_cell BK393.out 0).trans rfl
   have hfs30 := blk_frozen BK393.out 0
   have hs31 : w29.cell? ⟨gb393, 1, none⟩ = some (.int .i64 0) := (blk_cell BK393.out 1).trans rfl
   have hfs31 := blk_frozen BK393.out 1
   refine skip_ (w1 := ?_) (by rfl) rfl ?_ ?_
   rotate_left
   ·go_simp
    rfl
   refine hK.out _ _ ⟨((cfr_ hw391_0 GW393.out).trans (((cfr_ hw391_0 GW393.out).trans (hHeld.1)))), ((cfr_ hw391_1 GW393.out).trans (((cfr_ hw391_1 GW393.out).trans (hHeld.2.1)))), ((cfr_ hw392_0 GW393.out).trans (((cfr_ hw392_0 GW393.out).trans (hHeld.2.2))))⟩ (fun hHeld => ?_)
   clear hK K
   refine pm_ HT_ 10 10 11 2047 ?_
   refine done_ (done_of HT_.out (by kernel_rfl)) ?_
   obtain ⟨hcz32_0, hcz32_1, hfz32_0, hfz32_1⟩ := bx2 BK393
   try go_wp2_with (first | ((with_reducible refine gk_ 66 ?_); refine gq_ 23 Tryz.func66 #[.int .i64 ((rd_T73 l0 a2).f0)] ?_; (with_reducible refine (spec_ruLevel.calls ((rd_T73 l0 a2).f0) t394 _ A8.out).mono ?_); rintro e w' ⟨rfl, ⟨nd, rfl⟩⟩; refine ⟨_, rfl, ?_⟩) | ((with_reducible refine gk_ 67 ?_); refine gq_ 54 Tryz.func67 #[.int .i64 ((rd_T73 l0 a2).f1)] ?_; (with_reducible refine (spec_l1Num.calls k ((rd_T73 l0 a2).f1) t395 _ A10.out).mono ?_); rintro e w33 ⟨rfl, hb⟩; refine ⟨_, rfl, ?_⟩; replace BK393 := am_ (blk_below (g := gb393) (o := .cells #[.int .i64 ((rd_T73 l0 a2).f0), .int .i64 ((rd_T73 l0 a2).f1)] 73 (0, 0)) (kpq_ (kputs BK393 [(0, _), (1, _)])) hb); replace HB := hbs_ HB hb; obtain ⟨hcz34_0, hcz34_1, hfz34_0, hfz34_1⟩ := bx2 BK393))
   replace BK393 := am_ (blk_drew BK393.out)
   replace HB := am_ (below_drew1 HB.out)
   refine start_ (n := 6) (S := fun w' => w'.cell? ⟨gb393, 0, none⟩ = some (.int .i64 ((rd_T73 l0 a2).f0)) ∧ w'.cell? ⟨gb393, 1, none⟩ = some (.int .i64 ((rd_T73 l0 a2).f1))) (ds := []) (bb 6 0) (by kernel_rfl) rfl rfl ⟨(blk_cell BK393.out 0).trans rfl, (blk_cell BK393.out 1).trans rfl⟩ (fun hHeld => ?_)
   generalize w33.drew = w35 at BK393 HB hHeld ⊢
   refine pure_ (i := 1) (N := some 59) (v := ?_) (a' := ?_) (bb 6 2) rfl rfl (by kernel_rfl) (fun _ _ _ h => h) (Or.inl ⟨by rfl, ?_⟩) ?_ ?_
   rotate_left
   ·intro w'
    go_simp
    with_reducible rfl
   rotate_left
   ·simp only [Act.put, List.setIfInBounds_toArray, List.set_cons_zero, List.set_cons_succ, i64_w, i32_w]
    rfl
   refine take_ (i := 2) (N := some 60) (v := ?_) (a' := ?_) (bb 6 6) rfl rfl (by kernel_rfl) (fun _ _ _ h => h) (Or.inl ⟨by rfl, ?_⟩) hHeld ?_ ?_
   rotate_left
   ·rintro w' ⟨s0, s1⟩
    go_simp
    with_reducible rfl
   rotate_left
   ·simp only [Act.put, List.setIfInBounds_toArray, List.set_cons_zero, List.set_cons_succ, i64_w, i32_w]
    rfl
   refine one_ (i := 0) (N := some 58) (bb 6 7) rfl rfl (by kernel_rfl) (by decide) (fun K hK => ?_)
   refine goes_ Tryz.func48 (by kernel_rfl) rfl #[] (by rfl) rfl rfl (by (try simp only [List.map_toArray, List.map_cons, List.map_nil]); first | done | rfl | (simp only [List.length_drop, List.length_take]; rfl)) ?_
   with_reducible refine (spec_ruFields.calls  t396 _ A12.out).mono ?_
   rintro e w36 ⟨v397, rfl, ho0, hb⟩
   refine ⟨_, rfl, ?_⟩
   have HO398 := am_ (Kd.R_lower ho0 (below_size (hb_ HB)))
   replace BK393 := am_ (blk_below (kp_ BK393) hb)
   replace HB := am_ (below_step (hb_ HB) hb)
   obtain ⟨Ao37, co37, eo37⟩ := Kd.R_slice HO398.out
   (first | subst eo37 | (injection eo37 with f1_ f2_ f3_; have f4_ := f1_.symm; have f5_ := f3_.symm; clear f1_ f2_ f3_; subst f4_; subst f5_))
   have p399 : 0 ≤ (((rd_T73 l0 a2).f1) : Int) := od_
   have q399 : ((rd_T73 l0 a2).f1) < (t396.length : Int) := od_
   obtain ⟨ad399, e399, hx399_0⟩ := Kd.at_string (Kd.R_reads' HO398.out).2.2 ((rd_T73 l0 a2).f1) p399 q399
   cases e399
   replace p399 := eq_true p399
   replace q399 := eq_true q399
   refine hK.out _ _ ⟨(blk_cell BK393.out 0).trans rfl, (blk_cell BK393.out 1).trans rfl⟩ (fun hHeld => ?_)
   refine addS_ (E := fun w' => w'.cell? (ad399.add (((rd_T73 l0 a2).f1)).toNat) = some (.string (rdOf ByteArray.empty t396 ((rd_T73 l0 a2).f1)))) hHeld hx399_0 ?_
   have hHeld := And.intro hx399_0 hHeld
   clear hK K
   refine nm_ (some 58) (h := ?_)
   refine pure_ (i := 3) (N := some 61) (v := ?_) (a' := ?_) (bb 6 15) rfl rfl (by kernel_rfl) (fun _ _ _ h => h) (Or.inl ⟨by rfl, ?_⟩) ?_ ?_
   rotate_left
   ·intro w'
    go_simp
    with_reducible rfl
   rotate_left
   ·simp only [Act.put, List.setIfInBounds_toArray, List.set_cons_zero, List.set_cons_succ, i64_w, i32_w]
    rfl
   refine take_ (i := 4) (N := some 62) (v := ?_) (a' := ?_) (bb 6 31) rfl rfl (by kernel_rfl) (fun _ _ _ h => h) (Or.inl ⟨by rfl, ?_⟩) hHeld ?_ ?_
   rotate_left
   ·rintro w' ⟨s0, s1, s2⟩
    go_simp
    with_reducible rfl
   rotate_left
   ·simp only [Act.put, List.setIfInBounds_toArray, List.set_cons_zero, List.set_cons_succ, i64_w, i32_w]
    rfl
   refine pure_ (i := 5) (N := some 12) (v := ?_) (a' := ?_) (bb 6 63) rfl rfl (by kernel_rfl) (fun _ _ _ h => h) (Or.inl ⟨by rfl, ?_⟩) ?_ ?_
   rotate_left
   ·intro w'
    go_simp
    with_reducible rfl
   rotate_left
   ·simp only [Act.put, List.setIfInBounds_toArray, List.set_cons_zero, List.set_cons_succ, i64_w, i32_w]
    rfl
   refine done_ (by kernel_rfl) ?_
   try go_wp2
   go_ret
   exact ad_ (hb_ HB)
   )
   exact p2_
  rw [if_neg c11] at H
  have c11b0 : (((rd_T73 l0 a2).f0) == 1) = false := beq_eq_false_iff_ne.mpr c11
  have c11b1 : (((rd_T73 l0 a2).f0) != 1) = true := bne_iff_ne.mpr c11
  by_cases c38 : t394 < a3
  ·rw [if_pos c38] at H
   have c38b0 := decide_eq_true c38
   clear c38
   revert H; refine pf_ fun c39 H => ?_
   have c39b0 := eq_true c39
   have c39b1 := decide_eq_true c39
   try have c39b2 : (9223372036854775807 < 2 + t395.size) = False := eq_false (Nat.not_lt.2 c39)
   by_cases c40 : ((⟨#[40, 32]⟩ : ByteArray) ++ t395).size + 2 ≤ 9223372036854775807
   case neg => rw [if_neg c40] at H; exact absurd H (by simp)
   refine ?z3_
   let rec p3_ : type_of% ?z3_ := by(
   rw [if_pos c40] at H
   have c40b0 := eq_true c40
   have c40b1 := decide_eq_true c40
   try have c40b2 : (9223372036854775807 < ((⟨#[40, 32]⟩ : ByteArray) ++ t395).size + 2) = False := eq_false (Nat.not_lt.2 c40)
   have c40b3 : (9223372036854775807 < 2 + t395.size + 2) = False := eq_false (Nat.not_lt.2 (by have h_ := c40; simp only [ByteArray.size_append] at h_; exact h_))
   obtain rfl := Option.some.inj H
   go_enter Tryz.func47, Tryz.ntmps47
   try go_wp2
   replace HB := am_ (below_drew1 HB.out)
   have p391 : 0 ≤ (a2 : Int) := od_
   have q391 : a2 < (l0.length : Int) := od_
   obtain ⟨ad391, e391, hx391_0, hx391_1⟩ := at_T73 HR0.out a2 p391 q391
   have hw391_1 := hx391_1
   have hw391_0 := hx391_0
   cases e391
   replace hx391_0 := hc_ HB hx391_0
   replace hx391_1 := hc_ HB hx391_1
   replace p391 := eq_true p391
   replace q391 := eq_true q391
   have p392 : 0 ≤ (a2 : Int) := od_
   have q392 : a2 < (l1.length : Int) := od_
   obtain ⟨ad392, A392_0, c392_0, e392, hx392_0, hl392_0, hi392_0⟩ := at_L3 HR1.out a2 p392 q392
   have hw392_0 := hx392_0
   cases e392
   replace hx392_0 := hc_ HB hx392_0
   have HR392_0 := am_ hi392_0
   have HC392_0 := am_ hl392_0
   clear hi392_0 hl392_0
   replace p392 := eq_true p392
   replace q392 := eq_true q392
   refine start_ (n := 11) (S := fun w' => w'.cell? (ad391.add ((a2).toNat * 2)) = some (.int .i64 ((rd_T73 l0 a2).f0)) ∧ w'.cell? ⟨(ad391.add ((a2).toNat * 2)).block, (ad391.add ((a2).toNat * 2)).off + 1, none⟩ = some (.int .i64 ((rd_T73 l0 a2).f1)) ∧ w'.cell? (ad392.add (a2).toNat) = some (.slice A392_0 (rd_L3 l1 a2).length c392_0)) (ds := []) (bb 11 0) (by kernel_rfl) rfl rfl ⟨(hcl_ HB hw391_0), (hcl_ HB hw391_1), (hcl_ HB hw392_0)⟩ (fun hHeld => ?_); refine with_tabW spec_ruShow.tab1 spec_ruShow.bits1 (fun HT_ HW_ => ?_)
   generalize w.drew = w41 at HB HR392_0 hx391_0 hx391_1 hx392_0 hHeld ⊢
   refine pm_ HT_ 0 13 11 1 ?_
   refine pm_ HT_ 1 14 11 3 ?_
   refine pm_ HT_ 2 15 11 7 ?_
   refine pm_ HT_ 4 17 11 23 ?_
   refine pm_ HT_ 5 18 11 55 ?_
   refine pm_ HT_ 6 19 11 119 ?_
   refine tk_ HT_ HW_ hHeld 3 (some 16) (bb 11 127) (h := ?_)
   refine tk_ HT_ HW_ hHeld 7 (some 20) (bb 11 255) (h := ?_)
   refine one_ (i := 8) (N := some 9) (bb 11 511) rfl rfl (one_of HT_.out (by kernel_rfl)) (by decide) (fun K hK => ?_)
   refine box_step ?hg (N := 9) ?hd (cs := #[.int .i64 0, .int .i64 0]) (t := 73) ?hr ?_; (case hd => rfl); (case hg => rfl); (case hr => first | (go_simp; done) | (go_simp; rfl))
   intro gb393 hg w42 hbox hb
   have n0_ := am_ (below_step (hb_ HB) hb)
   have n1_ := am_ (hbox)
   have n2_ := am_ ((by rw [hg]; exact (below_size (hb_ HB)) : w.heap.size ≤ gb393))
   have n3_ := am_ ((by rw [hg]; exact (below_size (hb_ HB)) : w.heap.size ≤ gb393))
   clear HB
   have HB := n0_
   have BK393 := n1_
   have GW393 := n2_
   have GE393 := n3_
   clear n0_ n1_ n2_ n3_
   clear hb hbox hg
   refine hK.out _ _ ⟨(hcl_ HB hw391_0), (hcl_ HB hw391_1), (hcl_ HB hw392_0)⟩ (fun hHeld => ?_)
   clear hK K
   refine nm_ (some 9) (h := ?_)
   refine one_ (i := 9) (N := none) (bb 11 1023) rfl rfl (one_of HT_.out (by kernel_rfl)) (by decide) (fun K hK => ?_)
   have hs43 : w42.cell? ⟨gb393, 0, none⟩ = some (.int .i64 0) := (blk_cell BK393.out 0).trans rfl
   have hfs43 := blk_frozen BK393.out 0
   have hs44 : w42.cell? ⟨gb393, 1, none⟩ = some (.int .i64 0) := (blk_cell BK393.out 1).trans rfl
   have hfs44 := blk_frozen BK393.out 1
   refine skip_ (w1 := ?_) (by rfl) rfl ?_ ?_
   rotate_left
   ·go_simp
    rfl
   refine hK.out _ _ ⟨((cfr_ hw391_0 GW393.out).trans (((cfr_ hw391_0 GW393.out).trans (hHeld.1)))), ((cfr_ hw391_1 GW393.out).trans (((cfr_ hw391_1 GW393.out).trans (hHeld.2.1)))), ((cfr_ hw392_0 GW393.out).trans (((cfr_ hw392_0 GW393.out).trans (hHeld.2.2))))⟩ (fun hHeld => ?_)
   clear hK K
   refine pm_ HT_ 10 10 11 2047 ?_
   refine done_ (done_of HT_.out (by kernel_rfl)) ?_
   obtain ⟨hcz45_0, hcz45_1, hfz45_0, hfz45_1⟩ := bx2 BK393
   try go_wp2_with (first | ((with_reducible refine gk_ 66 ?_); refine gq_ 23 Tryz.func66 #[.int .i64 ((rd_T73 l0 a2).f0)] ?_; (with_reducible refine (spec_ruLevel.calls ((rd_T73 l0 a2).f0) t394 _ A8.out).mono ?_); rintro e w' ⟨rfl, ⟨nd, rfl⟩⟩; refine ⟨_, rfl, ?_⟩) | ((with_reducible refine gk_ 67 ?_); refine gq_ 54 Tryz.func67 #[.int .i64 ((rd_T73 l0 a2).f1)] ?_; (with_reducible refine (spec_l1Num.calls k ((rd_T73 l0 a2).f1) t395 _ A10.out).mono ?_); rintro e w46 ⟨rfl, hb⟩; refine ⟨_, rfl, ?_⟩; replace BK393 := am_ (blk_below (g := gb393) (o := .cells #[.int .i64 ((rd_T73 l0 a2).f0), .int .i64 ((rd_T73 l0 a2).f1)] 73 (0, 0)) (kpq_ (kputs BK393 [(0, _), (1, _)])) hb); replace HB := hbs_ HB hb; obtain ⟨hcz47_0, hcz47_1, hfz47_0, hfz47_1⟩ := bx2 BK393))
   go_ret
   exact ad_ (hb_ HB)
   )
   exact p3_
  refine ?z4_
  let rec p4_ : type_of% ?z4_ := by(
  rw [if_neg c38] at H
  have c38b0 := decide_eq_false c38
  clear c38
  obtain rfl := Option.some.inj H
  go_enter Tryz.func47, Tryz.ntmps47
  try go_wp2
  replace HB := am_ (below_drew1 HB.out)
  have p391 : 0 ≤ (a2 : Int) := od_
  have q391 : a2 < (l0.length : Int) := od_
  obtain ⟨ad391, e391, hx391_0, hx391_1⟩ := at_T73 HR0.out a2 p391 q391
  have hw391_1 := hx391_1
  have hw391_0 := hx391_0
  cases e391
  replace hx391_0 := hc_ HB hx391_0
  replace hx391_1 := hc_ HB hx391_1
  replace p391 := eq_true p391
  replace q391 := eq_true q391
  have p392 : 0 ≤ (a2 : Int) := od_
  have q392 : a2 < (l1.length : Int) := od_
  obtain ⟨ad392, A392_0, c392_0, e392, hx392_0, hl392_0, hi392_0⟩ := at_L3 HR1.out a2 p392 q392
  have hw392_0 := hx392_0
  cases e392
  replace hx392_0 := hc_ HB hx392_0
  have HR392_0 := am_ hi392_0
  have HC392_0 := am_ hl392_0
  clear hi392_0 hl392_0
  replace p392 := eq_true p392
  replace q392 := eq_true q392
  refine start_ (n := 11) (S := fun w' => w'.cell? (ad391.add ((a2).toNat * 2)) = some (.int .i64 ((rd_T73 l0 a2).f0)) ∧ w'.cell? ⟨(ad391.add ((a2).toNat * 2)).block, (ad391.add ((a2).toNat * 2)).off + 1, none⟩ = some (.int .i64 ((rd_T73 l0 a2).f1)) ∧ w'.cell? (ad392.add (a2).toNat) = some (.slice A392_0 (rd_L3 l1 a2).length c392_0)) (ds := []) (bb 11 0) (by kernel_rfl) rfl rfl ⟨(hcl_ HB hw391_0), (hcl_ HB hw391_1), (hcl_ HB hw392_0)⟩ (fun hHeld => ?_); refine with_tabW spec_ruShow.tab1 spec_ruShow.bits1 (fun HT_ HW_ => ?_)
  generalize w.drew = w48 at HB HR392_0 hx391_0 hx391_1 hx392_0 hHeld ⊢
  refine pm_ HT_ 0 13 11 1 ?_
  refine pm_ HT_ 1 14 11 3 ?_
  refine pm_ HT_ 2 15 11 7 ?_
  refine pm_ HT_ 4 17 11 23 ?_
  refine pm_ HT_ 5 18 11 55 ?_
  refine pm_ HT_ 6 19 11 119 ?_
  refine tk_ HT_ HW_ hHeld 3 (some 16) (bb 11 127) (h := ?_)
  refine tk_ HT_ HW_ hHeld 7 (some 20) (bb 11 255) (h := ?_)
  refine one_ (i := 8) (N := some 9) (bb 11 511) rfl rfl (one_of HT_.out (by kernel_rfl)) (by decide) (fun K hK => ?_)
  refine box_step ?hg (N := 9) ?hd (cs := #[.int .i64 0, .int .i64 0]) (t := 73) ?hr ?_; (case hd => rfl); (case hg => rfl); (case hr => first | (go_simp; done) | (go_simp; rfl))
  intro gb393 hg w49 hbox hb
  have n0_ := am_ (below_step (hb_ HB) hb)
  have n1_ := am_ (hbox)
  have n2_ := am_ ((by rw [hg]; exact (below_size (hb_ HB)) : w.heap.size ≤ gb393))
  have n3_ := am_ ((by rw [hg]; exact (below_size (hb_ HB)) : w.heap.size ≤ gb393))
  clear HB
  have HB := n0_
  have BK393 := n1_
  have GW393 := n2_
  have GE393 := n3_
  clear n0_ n1_ n2_ n3_
  clear hb hbox hg
  refine hK.out _ _ ⟨(hcl_ HB hw391_0), (hcl_ HB hw391_1), (hcl_ HB hw392_0)⟩ (fun hHeld => ?_)
  clear hK K
  refine nm_ (some 9) (h := ?_)
  refine one_ (i := 9) (N := none) (bb 11 1023) rfl rfl (one_of HT_.out (by kernel_rfl)) (by decide) (fun K hK => ?_)
  have hs50 : w49.cell? ⟨gb393, 0, none⟩ = some (.int .i64 0) := (blk_cell BK393.out 0).trans rfl
  have hfs50 := blk_frozen BK393.out 0
  have hs51 : w49.cell? ⟨gb393, 1, none⟩ = some (.int .i64 0) := (blk_cell BK393.out 1).trans rfl
  have hfs51 := blk_frozen BK393.out 1
  refine skip_ (w1 := ?_) (by rfl) rfl ?_ ?_
  rotate_left
  ·go_simp
   rfl
  refine hK.out _ _ ⟨((cfr_ hw391_0 GW393.out).trans (((cfr_ hw391_0 GW393.out).trans (hHeld.1)))), ((cfr_ hw391_1 GW393.out).trans (((cfr_ hw391_1 GW393.out).trans (hHeld.2.1)))), ((cfr_ hw392_0 GW393.out).trans (((cfr_ hw392_0 GW393.out).trans (hHeld.2.2))))⟩ (fun hHeld => ?_)
  clear hK K
  refine pm_ HT_ 10 10 11 2047 ?_
  refine done_ (done_of HT_.out (by kernel_rfl)) ?_
  obtain ⟨hcz52_0, hcz52_1, hfz52_0, hfz52_1⟩ := bx2 BK393
  try go_wp2_with (first | ((with_reducible refine gk_ 66 ?_); refine gq_ 23 Tryz.func66 #[.int .i64 ((rd_T73 l0 a2).f0)] ?_; (with_reducible refine (spec_ruLevel.calls ((rd_T73 l0 a2).f0) t394 _ A8.out).mono ?_); rintro e w' ⟨rfl, ⟨nd, rfl⟩⟩; refine ⟨_, rfl, ?_⟩) | ((with_reducible refine gk_ 67 ?_); refine gq_ 54 Tryz.func67 #[.int .i64 ((rd_T73 l0 a2).f1)] ?_; (with_reducible refine (spec_l1Num.calls k ((rd_T73 l0 a2).f1) t395 _ A10.out).mono ?_); rintro e w53 ⟨rfl, hb⟩; refine ⟨_, rfl, ?_⟩; replace BK393 := am_ (blk_below (g := gb393) (o := .cells #[.int .i64 ((rd_T73 l0 a2).f0), .int .i64 ((rd_T73 l0 a2).f1)] 73 (0, 0)) (kpq_ (kputs BK393 [(0, _), (1, _)])) hb); replace HB := hbs_ HB hb; obtain ⟨hcz54_0, hcz54_1, hfz54_0, hfz54_1⟩ := bx2 BK393))
  go_ret
  exact ad_ (hb_ HB)
  )
  exact p4_
 rw [if_neg c9] at H
 have c9b0 : (t394 == 3) = false := beq_eq_false_iff_ne.mpr c9
 have c9b1 : (t394 != 3) = true := bne_iff_ne.mpr c9
 by_cases c55 : t394 = 0
 ·rw [if_pos c55] at H
  have c55b0 : (t394 == 0) = true := beq_iff_eq.mpr c55
  have c55b1 : (t394 != 0) = false := bne_eq_false_iff_eq.mpr c55
  clear c55
  revert H; refine pf_ fun c56 H => ?_
  have c56b0 := decide_eq_true c56
  have c56b1 : decide (0 < (rd_L3 l1 a2).length) = true := decide_eq_true (by omega)
  clear c56
  revert H; refine bn_ ?_; rintro t401 A57 H; try dsimp only at H
  revert H; refine pf_ fun c58 H => ?_
  have c58b0 := eq_true c58
  have c58b1 := decide_eq_true c58
  try have c58b2 : (9223372036854775807 < 3 + t401.size) = False := eq_false (Nat.not_lt.2 c58)
  by_cases c59 : ((⟨#[105, 102, 32]⟩ : ByteArray) ++ t401).size + 1 ≤ 9223372036854775807
  case neg => rw [if_neg c59] at H; exact absurd H (by simp)
  refine ?z5_
  let rec p5_ : type_of% ?z5_ := by(
  rw [if_pos c59] at H
  have c59b0 := eq_true c59
  have c59b1 := decide_eq_true c59
  try have c59b2 : (9223372036854775807 < ((⟨#[105, 102, 32]⟩ : ByteArray) ++ t401).size + 1) = False := eq_false (Nat.not_lt.2 c59)
  have c59b3 : (9223372036854775807 < 3 + t401.size + 1) = False := eq_false (Nat.not_lt.2 (by have h_ := c59; simp only [ByteArray.size_append] at h_; exact h_))
  obtain ⟨y402, hy402⟩ : ∃ y_ : List ByteArray, y_ = (([⟨#[60]⟩, ⟨#[61]⟩, ⟨#[62]⟩] : List ByteArray)) := ⟨_, rfl⟩
  (try with_reducible replace H := (Option.bind_some _ _).symm.trans H); (try dsimp only at H); (try rw [← hy402] at H)
  have Ny402 := am_ hy402
  clear hy402
  obtain ⟨ji60, hji60⟩ : ∃ j_ : Int, (wrap64 (((rd_T73 l0 a2).f0) - 6)) = j_ := ⟨_, rfl⟩
  first | rw [hji60] at H | simp only [hji60] at H
  (try rw [hji60] at A8)
  (try rw [hji60] at A57)
  have hji60w : (IntKind.i64.wrap (((rd_T73 l0 a2).f0) - 6)) = ji60 := (i64_w _).trans hji60
  by_cases c61 : 0 ≤ (ji60)
  ·rw [if_pos c61] at H
   have c61b0 := decide_eq_true c61
   clear c61
   revert H; refine pd_ fun c62b0 H => ?_
   revert H; refine pf_ fun c63 H => ?_
   have c63b0 := eq_true c63
   have c63b1 := decide_eq_true c63
   try have c63b2 : (9223372036854775807 < (((⟨#[105, 102, 32]⟩ : ByteArray) ++ t401) ++ (⟨#[32]⟩ : ByteArray)).size + (rdOf ByteArray.empty y402 (ji60)).size) = False := eq_false (Nat.not_lt.2 c63)
   have c63b3 : (9223372036854775807 < 3 + t401.size + 1 + (rdOf ByteArray.empty y402 (ji60)).size) = False := eq_false (Nat.not_lt.2 (by have h_ := c63; simp only [ByteArray.size_append] at h_; exact h_))
   revert H; refine pf_ fun c64 H => ?_
   have c64b0 := eq_true c64
   have c64b1 := decide_eq_true c64
   try have c64b2 : (9223372036854775807 < ((((⟨#[105, 102, 32]⟩ : ByteArray) ++ t401) ++ (⟨#[32]⟩ : ByteArray)) ++ (rdOf ByteArray.empty y402 (ji60))).size + 1) = False := eq_false (Nat.not_lt.2 c64)
   have c64b3 : (9223372036854775807 < 3 + t401.size + 1 + (rdOf ByteArray.empty y402 (ji60)).size + 1) = False := eq_false (Nat.not_lt.2 (by have h_ := c64; simp only [ByteArray.size_append] at h_; exact h_))
   revert H; refine pf_ fun c65 H => ?_
   have c65b0 := decide_eq_true c65
   have c65b1 : decide (1 < (rd_L3 l1 a2).length) = true := decide_eq_true (by omega)
   clear c65
   revert H; refine bn_ ?_; rintro t407 A66 H; try dsimp only at H
   revert H; refine pf_ fun c67 H => ?_
   have c67b0 := eq_true c67
   have c67b1 := decide_eq_true c67
   try have c67b2 : (9223372036854775807 < (((((⟨#[105, 102, 32]⟩ : ByteArray) ++ t401) ++ (⟨#[32]⟩ : ByteArray)) ++ (rdOf ByteArray.empty y402 (ji60))) ++ (⟨#[32]⟩ : ByteArray)).size + t407.size) = False := eq_false (Nat.not_lt.2 c67)
   have c67b3 : (9223372036854775807 < 3 + t401.size + 1 + (rdOf ByteArray.empty y402 (ji60)).size + 1 + t407.size) = False := eq_false (Nat.not_lt.2 (by have h_ := c67; simp only [ByteArray.size_append] at h_; exact h_))
   revert H; refine pf_ fun c68 H => ?_
   have c68b0 := eq_true c68
   have c68b1 := decide_eq_true c68
   try have c68b2 : (9223372036854775807 < ((((((⟨#[105, 102, 32]⟩ : ByteArray) ++ t401) ++ (⟨#[32]⟩ : ByteArray)) ++ (rdOf ByteArray.empty y402 (ji60))) ++ (⟨#[32]⟩ : ByteArray)) ++ t407).size + 6) = False := eq_false (Nat.not_lt.2 c68)
   have c68b3 : (9223372036854775807 < 3 + t401.size + 1 + (rdOf ByteArray.empty y402 (ji60)).size + 1 + t407.size + 6) = False := eq_false (Nat.not_lt.2 (by have h_ := c68; simp only [ByteArray.size_append] at h_; exact h_))
   by_cases c69 : 2 < ((rd_L3 l1 a2).length : Int)
   case neg => rw [if_neg c69] at H; exact absurd H (by simp)
   refine ?z6_
   let rec p6_ : type_of% ?z6_ := by(
   rw [if_pos c69] at H
   have c69b0 := decide_eq_true c69
   have c69b1 : decide (2 < (rd_L3 l1 a2).length) = true := decide_eq_true (by omega)
   clear c69
   revert H; refine bn_ ?_; rintro t409 A70 H; try dsimp only at H
   by_cases c71 : (((((((⟨#[105, 102, 32]⟩ : ByteArray) ++ t401) ++ (⟨#[32]⟩ : ByteArray)) ++ (rdOf ByteArray.empty y402 (ji60))) ++ (⟨#[32]⟩ : ByteArray)) ++ t407) ++ (⟨#[32, 116, 104, 101, 110, 32]⟩ : ByteArray)).size + t409.size ≤ 9223372036854775807
   ·rw [if_pos c71] at H
    have c71b0 := eq_true c71
    have c71b1 := decide_eq_true c71
    try have c71b2 : (9223372036854775807 < (((((((⟨#[105, 102, 32]⟩ : ByteArray) ++ t401) ++ (⟨#[32]⟩ : ByteArray)) ++ (rdOf ByteArray.empty y402 (ji60))) ++ (⟨#[32]⟩ : ByteArray)) ++ t407) ++ (⟨#[32, 116, 104, 101, 110, 32]⟩ : ByteArray)).size + t409.size) = False := eq_false (Nat.not_lt.2 c71)
    have c71b3 : (9223372036854775807 < 3 + t401.size + 1 + (rdOf ByteArray.empty y402 (ji60)).size + 1 + t407.size + 6 + t409.size) = False := eq_false (Nat.not_lt.2 (by have h_ := c71; simp only [ByteArray.size_append] at h_; exact h_))
    revert H; refine pf_ fun c72 H => ?_
    have c72b0 := eq_true c72
    have c72b1 := decide_eq_true c72
    try have c72b2 : (9223372036854775807 < ((((((((⟨#[105, 102, 32]⟩ : ByteArray) ++ t401) ++ (⟨#[32]⟩ : ByteArray)) ++ (rdOf ByteArray.empty y402 (ji60))) ++ (⟨#[32]⟩ : ByteArray)) ++ t407) ++ (⟨#[32, 116, 104, 101, 110, 32]⟩ : ByteArray)) ++ t409).size + 6) = False := eq_false (Nat.not_lt.2 c72)
    have c72b3 : (9223372036854775807 < 3 + t401.size + 1 + (rdOf ByteArray.empty y402 (ji60)).size + 1 + t407.size + 6 + t409.size + 6) = False := eq_false (Nat.not_lt.2 (by have h_ := c72; simp only [ByteArray.size_append] at h_; exact h_))
    revert H; refine pf_ fun c73 H => ?_
    have c73b0 := decide_eq_true c73
    have c73b1 : decide (3 < (rd_L3 l1 a2).length) = true := decide_eq_true (by omega)
    clear c73
    revert H; refine bn_ ?_; rintro t411 A74 H; try dsimp only at H
    revert H; refine pf_ fun c75 H => ?_
    have c75b0 := eq_true c75
    have c75b1 := decide_eq_true c75
    try have c75b2 : (9223372036854775807 < (((((((((⟨#[105, 102, 32]⟩ : ByteArray) ++ t401) ++ (⟨#[32]⟩ : ByteArray)) ++ (rdOf ByteArray.empty y402 (ji60))) ++ (⟨#[32]⟩ : ByteArray)) ++ t407) ++ (⟨#[32, 116, 104, 101, 110, 32]⟩ : ByteArray)) ++ t409) ++ (⟨#[32, 101, 108, 115, 101, 32]⟩ : ByteArray)).size + t411.size) = False := eq_false (Nat.not_lt.2 c75)
    have c75b3 : (9223372036854775807 < 3 + t401.size + 1 + (rdOf ByteArray.empty y402 (ji60)).size + 1 + t407.size + 6 + t409.size + 6 + t411.size) = False := eq_false (Nat.not_lt.2 (by have h_ := c75; simp only [ByteArray.size_append] at h_; exact h_))
    by_cases c76 : t394 < a3
    ·rw [if_pos c76] at H
     have c76b0 := decide_eq_true c76
     clear c76
     revert H; refine pf_ fun c77 H => ?_
     have c77b0 := eq_true c77
     have c77b1 := decide_eq_true c77
     try have c77b2 : (9223372036854775807 < 2 + ((((((((((⟨#[105, 102, 32]⟩ : ByteArray) ++ t401) ++ (⟨#[32]⟩ : ByteArray)) ++ (rdOf ByteArray.empty y402 (ji60))) ++ (⟨#[32]⟩ : ByteArray)) ++ t407) ++ (⟨#[32, 116, 104, 101, 110, 32]⟩ : ByteArray)) ++ t409) ++ (⟨#[32, 101, 108, 115, 101, 32]⟩ : ByteArray)) ++ t411).size) = False := eq_false (Nat.not_lt.2 c77)
     have c77b3 : (9223372036854775807 < 2 + (3 + t401.size + 1 + (rdOf ByteArray.empty y402 (ji60)).size + 1 + t407.size + 6 + t409.size + 6 + t411.size)) = False := eq_false (Nat.not_lt.2 (by have h_ := c77; simp only [ByteArray.size_append] at h_; exact h_))
     by_cases c78 : ((⟨#[40, 32]⟩ : ByteArray) ++ ((((((((((⟨#[105, 102, 32]⟩ : ByteArray) ++ t401) ++ (⟨#[32]⟩ : ByteArray)) ++ (rdOf ByteArray.empty y402 (ji60))) ++ (⟨#[32]⟩ : ByteArray)) ++ t407) ++ (⟨#[32, 116, 104, 101, 110, 32]⟩ : ByteArray)) ++ t409) ++ (⟨#[32, 101, 108, 115, 101, 32]⟩ : ByteArray)) ++ t411)).size + 2 ≤ 9223372036854775807
     case neg => rw [if_neg c78] at H; exact absurd H (by simp)
     refine ?z7_
     let rec p7_ : type_of% ?z7_ := by(
     rw [if_pos c78] at H
     have c78b0 := eq_true c78
     have c78b1 := decide_eq_true c78
     try have c78b2 : (9223372036854775807 < ((⟨#[40, 32]⟩ : ByteArray) ++ ((((((((((⟨#[105, 102, 32]⟩ : ByteArray) ++ t401) ++ (⟨#[32]⟩ : ByteArray)) ++ (rdOf ByteArray.empty y402 (ji60))) ++ (⟨#[32]⟩ : ByteArray)) ++ t407) ++ (⟨#[32, 116, 104, 101, 110, 32]⟩ : ByteArray)) ++ t409) ++ (⟨#[32, 101, 108, 115, 101, 32]⟩ : ByteArray)) ++ t411)).size + 2) = False := eq_false (Nat.not_lt.2 c78)
     have c78b3 : (9223372036854775807 < 2 + (3 + t401.size + 1 + (rdOf ByteArray.empty y402 (ji60)).size + 1 + t407.size + 6 + t409.size + 6 + t411.size) + 2) = False := eq_false (Nat.not_lt.2 (by have h_ := c78; simp only [ByteArray.size_append] at h_; exact h_))
     obtain rfl := Option.some.inj H
     go_enter Tryz.func47, Tryz.ntmps47
     try go_wp2
     replace HB := am_ (below_drew1 HB.out)
     have p391 : 0 ≤ (a2 : Int) := od_
     have q391 : a2 < (l0.length : Int) := od_
     obtain ⟨ad391, e391, hx391_0, hx391_1⟩ := at_T73 HR0.out a2 p391 q391
     have hw391_1 := hx391_1
     have hw391_0 := hx391_0
     cases e391
     replace hx391_0 := hc_ HB hx391_0
     replace hx391_1 := hc_ HB hx391_1
     replace p391 := eq_true p391
     replace q391 := eq_true q391
     have p392 : 0 ≤ (a2 : Int) := od_
     have q392 : a2 < (l1.length : Int) := od_
     obtain ⟨ad392, A392_0, c392_0, e392, hx392_0, hl392_0, hi392_0⟩ := at_L3 HR1.out a2 p392 q392
     have hw392_0 := hx392_0
     cases e392
     replace hx392_0 := hc_ HB hx392_0
     have HR392_0 := am_ hi392_0
     have HC392_0 := am_ hl392_0
     clear hi392_0 hl392_0
     replace p392 := eq_true p392
     replace q392 := eq_true q392
     refine start_ (n := 11) (S := fun w' => w'.cell? (ad391.add ((a2).toNat * 2)) = some (.int .i64 ((rd_T73 l0 a2).f0)) ∧ w'.cell? ⟨(ad391.add ((a2).toNat * 2)).block, (ad391.add ((a2).toNat * 2)).off + 1, none⟩ = some (.int .i64 ((rd_T73 l0 a2).f1)) ∧ w'.cell? (ad392.add (a2).toNat) = some (.slice A392_0 (rd_L3 l1 a2).length c392_0)) (ds := []) (bb 11 0) (by kernel_rfl) rfl rfl ⟨(hcl_ HB hw391_0), (hcl_ HB hw391_1), (hcl_ HB hw392_0)⟩ (fun hHeld => ?_); refine with_tabW spec_ruShow.tab1 spec_ruShow.bits1 (fun HT_ HW_ => ?_)
     generalize w.drew = w79 at HB HR392_0 hx391_0 hx391_1 hx392_0 hHeld ⊢
     refine pm_ HT_ 0 13 11 1 ?_
     refine pm_ HT_ 1 14 11 3 ?_
     refine pm_ HT_ 2 15 11 7 ?_
     refine pm_ HT_ 4 17 11 23 ?_
     refine pm_ HT_ 5 18 11 55 ?_
     refine pm_ HT_ 6 19 11 119 ?_
     refine tk_ HT_ HW_ hHeld 3 (some 16) (bb 11 127) (h := ?_)
     refine tk_ HT_ HW_ hHeld 7 (some 20) (bb 11 255) (h := ?_)
     refine one_ (i := 8) (N := some 9) (bb 11 511) rfl rfl (one_of HT_.out (by kernel_rfl)) (by decide) (fun K hK => ?_)
     refine box_step ?hg (N := 9) ?hd (cs := #[.int .i64 0, .int .i64 0]) (t := 73) ?hr ?_; (case hd => rfl); (case hg => rfl); (case hr => first | (go_simp; done) | (go_simp; rfl))
     intro gb393 hg w80 hbox hb
     have n0_ := am_ (below_step (hb_ HB) hb)
     have n1_ := am_ (hbox)
     have n2_ := am_ ((by rw [hg]; exact (below_size (hb_ HB)) : w.heap.size ≤ gb393))
     have n3_ := am_ ((by rw [hg]; exact (below_size (hb_ HB)) : w.heap.size ≤ gb393))
     clear HB
     have HB := n0_
     have BK393 := n1_
     have GW393 := n2_
     have GE393 := n3_
     clear n0_ n1_ n2_ n3_
     clear hb hbox hg
     refine hK.out _ _ ⟨(hcl_ HB hw391_0), (hcl_ HB hw391_1), (hcl_ HB hw392_0)⟩ (fun hHeld => ?_)
     clear hK K
     refine nm_ (some 9) (h := ?_)
     refine one_ (i := 9) (N := none) (bb 11 1023) rfl rfl (one_of HT_.out (by kernel_rfl)) (by decide) (fun K hK => ?_)
     have hs81 : w80.cell? ⟨gb393, 0, none⟩ = some (.int .i64 0) := (blk_cell BK393.out 0).trans rfl
     have hfs81 := blk_frozen BK393.out 0
     have hs82 : w80.cell? ⟨gb393, 1, none⟩ = some (.int .i64 0) := (blk_cell BK393.out 1).trans rfl
     have hfs82 := blk_frozen BK393.out 1
     refine skip_ (w1 := ?_) (by rfl) rfl ?_ ?_
     rotate_left
     ·go_simp
      rfl
     refine hK.out _ _ ⟨((cfr_ hw391_0 GW393.out).trans (((cfr_ hw391_0 GW393.out).trans (hHeld.1)))), ((cfr_ hw391_1 GW393.out).trans (((cfr_ hw391_1 GW393.out).trans (hHeld.2.1)))), ((cfr_ hw392_0 GW393.out).trans (((cfr_ hw392_0 GW393.out).trans (hHeld.2.2))))⟩ (fun hHeld => ?_)
     clear hK K
     refine pm_ HT_ 10 10 11 2047 ?_
     refine done_ (done_of HT_.out (by kernel_rfl)) ?_
     obtain ⟨hcz83_0, hcz83_1, hfz83_0, hfz83_1⟩ := bx2 BK393
     try go_wp2_with (first | ((with_reducible refine gk_ 66 ?_); refine gq_ 23 Tryz.func66 #[.int .i64 ((rd_T73 l0 a2).f0)] ?_; (with_reducible refine (spec_ruLevel.calls ((rd_T73 l0 a2).f0) t394 _ A8.out).mono ?_); rintro e w' ⟨rfl, ⟨nd, rfl⟩⟩; refine ⟨_, rfl, ?_⟩))
     have pi405 : (0 ≤ ((ji60) : Int)) = True := eq_true (od_)
     have qi405 : ((ji60) < (y402.length : Int)) = True := eq_true (od_)
     have n0_ : Aside0 (((w80.setCell ⟨gb393, 0, none⟩ (.int .i64 ((rd_T73 l0 a2).f0))).setCell ⟨gb393, 1, none⟩ (.int .i64 ((rd_T73 l0 a2).f1))).heap[gb393]? = some (.cells #[.int .i64 ((rd_T73 l0 a2).f0), .int .i64 ((rd_T73 l0 a2).f1)] 73 (0, 0))) := ⟨kpq_ (kputs BK393 [(0, _), (1, _)])⟩
     have n1_ : Aside0 (Below w.heap.size w ((w80.setCell ⟨gb393, 0, none⟩ (.int .i64 ((rd_T73 l0 a2).f0))).setCell ⟨gb393, 1, none⟩ (.int .i64 ((rd_T73 l0 a2).f1)))) := ⟨hb_ HB⟩
     generalize ((w80.setCell ⟨gb393, 0, none⟩ (.int .i64 ((rd_T73 l0 a2).f0))).setCell ⟨gb393, 1, none⟩ (.int .i64 ((rd_T73 l0 a2).f1))) = w84 at n0_ n1_ ⊢
     have BK393 := n0_
     have HB := n1_
     clear n0_ n1_
     (try (rw [drewN_self w84]; generalize hq_ : World.drewN w84 _ = w84; have n0_ : Aside0 (w84.heap[gb393]? = some (.cells #[.int .i64 ((rd_T73 l0 a2).f0), .int .i64 ((rd_T73 l0 a2).f1)] 73 (0, 0))) := ⟨by rw [← hq_]; exact (kp_ BK393)⟩; have n1_ : Aside0 (Below w.heap.size w w84) := ⟨by rw [← hq_]; exact (hb_ HB)⟩; clear BK393 HB hq_; have BK393 := n0_; have HB := n1_; clear n0_ n1_))
     replace BK393 := am_ (blk_drew BK393.out)
     replace HB := am_ (below_drew1 HB.out)
     have p400 : 0 ≤ (0 : Int) := (by omega)
     have q400 : 0 < ((rd_L3 l1 a2).length : Int) := od_
     obtain ⟨ad400, e400, hx400_0⟩ := Kd.at_int HR392_0.out 0 p400 q400
     have hw400_0 := hx400_0
     (try rw [show ((0 : Int)).toNat = 0 from rfl] at hw400_0)
     (try rw [show 0 * 1 = 0 from rfl] at hw400_0)
     (try rw [Addr.add_zero'] at hw400_0)
     cases e400
     have qi400 : (0 < (rd_L3 l1 a2).length) = True := eq_true (by omega)
     (try rw [show ((0 : Int)).toNat = 0 from rfl] at hx400_0)
     (try rw [Addr.add_zero'] at hx400_0)
     replace hx400_0 := hc_ HB hx400_0
     replace p400 := eq_true p400
     replace q400 := eq_true q400
     have p406 : 0 ≤ (1 : Int) := (by omega)
     have q406 : 1 < ((rd_L3 l1 a2).length : Int) := od_
     obtain ⟨ad406, e406, hx406_0⟩ := Kd.at_int HR392_0.out 1 p406 q406
     have hw406_0 := hx406_0
     (try rw [show ((1 : Int)).toNat = 1 from rfl] at hw406_0)
     (try rw [show 1 * 1 = 1 from rfl] at hw406_0)
     (try simp only [Nat.reduceMul, Nat.reduceEqDiff, Go.Addr.add, ↓reduceIte] at hw406_0)
     obtain rfl : ad400 = ad406 := (by injection e406)
     (try simp only [show (1 : Int).toNat = 1 from rfl, Nat.reduceMul, Nat.reduceEqDiff, Go.Addr.add, ↓reduceIte] at hx406_0)
     have qi406 : (1 < (rd_L3 l1 a2).length) = True := eq_true (by omega)
     (try rw [show ((1 : Int)).toNat = 1 from rfl] at hx406_0)
     replace hx406_0 := hc_ HB hx406_0
     replace p406 := eq_true p406
     replace q406 := eq_true q406
     have p408 : 0 ≤ (2 : Int) := (by omega)
     have q408 : 2 < ((rd_L3 l1 a2).length : Int) := od_
     obtain ⟨ad408, e408, hx408_0⟩ := Kd.at_int HR392_0.out 2 p408 q408
     have hw408_0 := hx408_0
     (try rw [show ((2 : Int)).toNat = 2 from rfl] at hw408_0)
     (try rw [show 2 * 1 = 2 from rfl] at hw408_0)
     (try simp only [Nat.reduceMul, Nat.reduceEqDiff, Go.Addr.add, ↓reduceIte] at hw408_0)
     obtain rfl : ad400 = ad408 := (by injection e408)
     (try simp only [show (2 : Int).toNat = 2 from rfl, Nat.reduceMul, Nat.reduceEqDiff, Go.Addr.add, ↓reduceIte] at hx408_0)
     have qi408 : (2 < (rd_L3 l1 a2).length) = True := eq_true (by omega)
     (try rw [show ((2 : Int)).toNat = 2 from rfl] at hx408_0)
     replace hx408_0 := hc_ HB hx408_0
     replace p408 := eq_true p408
     replace q408 := eq_true q408
     have p410 : 0 ≤ (3 : Int) := (by omega)
     have q410 : 3 < ((rd_L3 l1 a2).length : Int) := od_
     obtain ⟨ad410, e410, hx410_0⟩ := Kd.at_int HR392_0.out 3 p410 q410
     have hw410_0 := hx410_0
     (try rw [show ((3 : Int)).toNat = 3 from rfl] at hw410_0)
     (try rw [show 3 * 1 = 3 from rfl] at hw410_0)
     (try simp only [Nat.reduceMul, Nat.reduceEqDiff, Go.Addr.add, ↓reduceIte] at hw410_0)
     obtain rfl : ad400 = ad410 := (by injection e410)
     (try simp only [show (3 : Int).toNat = 3 from rfl, Nat.reduceMul, Nat.reduceEqDiff, Go.Addr.add, ↓reduceIte] at hx410_0)
     have qi410 : (3 < (rd_L3 l1 a2).length) = True := eq_true (by omega)
     (try rw [show ((3 : Int)).toNat = 3 from rfl] at hx410_0)
     replace hx410_0 := hc_ HB hx410_0
     replace p410 := eq_true p410
     replace q410 := eq_true q410
     refine start_ (n := 40) (S := fun w' => True) (ds := []) (bb 40 0) (by kernel_rfl) rfl rfl trivial (fun hHeld => ?_); refine with_tabW spec_ruShow.tab11 spec_ruShow.bits11 (fun HT_ HW_ => ?_)
     generalize w84.drew = w85 at BK393 HB hx400_0 hx406_0 hx408_0 hx410_0 hHeld ⊢
     refine pm_ HT_ 0 65 40 1 ?_
     refine pm_ HT_ 1 66 40 3 ?_
     refine pm_ HT_ 2 67 40 7 ?_
     refine pm_ HT_ 9 74 40 519 ?_
     refine pm_ HT_ 16 81 40 66055 ?_
     refine pm_ HT_ 17 82 40 197127 ?_
     refine pm_ HT_ 18 83 40 459271 ?_
     refine pm_ HT_ 24 89 40 17236487 ?_
     refine pm_ HT_ 25 90 40 50790919 ?_
     refine pm_ HT_ 26 91 40 117899783 ?_
     refine pm_ HT_ 32 97 40 4412867079 ?_
     refine pm_ HT_ 33 98 40 13002801671 ?_
     refine pm_ HT_ 34 99 40 30182670855 ?_
     refine inv_at [3, 4, 5, 6, 7, 8, 10, 11, 12, 13, 14, 15, 19, 20, 21, 22, 23, 27, 28, 29, 30, 31, 35, 36, 37, 38, 39] (fun a0_ b a w' => ∃ (v403 : Value) (az403 : Addr) (m12_ : Value), a = putSel a0_ b [(3, 68, .pointer (some ad400)), (4, 69, .int .i64 (rd (rd_L3 l1 a2) 0)), (5, 70, .string t401), (6, 71, .string ((⟨#[105, 102, 32]⟩ : ByteArray) ++ t401)), (7, 72, .string (((⟨#[105, 102, 32]⟩ : ByteArray) ++ t401) ++ (⟨#[32]⟩ : ByteArray))), (8, 73, v403), (10, 75, .int .i64 ((rd_T73 l0 a2).f0)), (11, 76, .int .i64 ji60), (12, 77, m12_), (13, 78, .string (rdOf ByteArray.empty y402 (ji60))), (14, 79, .string ((((⟨#[105, 102, 32]⟩ : ByteArray) ++ t401) ++ (⟨#[32]⟩ : ByteArray)) ++ (rdOf ByteArray.empty y402 (ji60)))), (15, 80, .string (((((⟨#[105, 102, 32]⟩ : ByteArray) ++ t401) ++ (⟨#[32]⟩ : ByteArray)) ++ (rdOf ByteArray.empty y402 (ji60))) ++ (⟨#[32]⟩ : ByteArray))), (19, 84, .pointer (some (ad400.add 1))), (20, 85, .int .i64 (rd (rd_L3 l1 a2) 1)), (21, 86, .string t407), (22, 87, .string ((((((⟨#[105, 102, 32]⟩ : ByteArray) ++ t401) ++ (⟨#[32]⟩ : ByteArray)) ++ (rdOf ByteArray.empty y402 (ji60))) ++ (⟨#[32]⟩ : ByteArray)) ++ t407)), (23, 88, .string (((((((⟨#[105, 102, 32]⟩ : ByteArray) ++ t401) ++ (⟨#[32]⟩ : ByteArray)) ++ (rdOf ByteArray.empty y402 (ji60))) ++ (⟨#[32]⟩ : ByteArray)) ++ t407) ++ (⟨#[32, 116, 104, 101, 110, 32]⟩ : ByteArray))), (27, 92, .pointer (some (ad400.add 2))), (28, 93, .int .i64 (rd (rd_L3 l1 a2) 2)), (29, 94, .string t409), (30, 95, .string ((((((((⟨#[105, 102, 32]⟩ : ByteArray) ++ t401) ++ (⟨#[32]⟩ : ByteArray)) ++ (rdOf ByteArray.empty y402 (ji60))) ++ (⟨#[32]⟩ : ByteArray)) ++ t407) ++ (⟨#[32, 116, 104, 101, 110, 32]⟩ : ByteArray)) ++ t409)), (31, 96, .string (((((((((⟨#[105, 102, 32]⟩ : ByteArray) ++ t401) ++ (⟨#[32]⟩ : ByteArray)) ++ (rdOf ByteArray.empty y402 (ji60))) ++ (⟨#[32]⟩ : ByteArray)) ++ t407) ++ (⟨#[32, 116, 104, 101, 110, 32]⟩ : ByteArray)) ++ t409) ++ (⟨#[32, 101, 108, 115, 101, 32]⟩ : ByteArray))), (35, 100, .pointer (some (ad400.add 3))), (36, 101, .int .i64 (rd (rd_L3 l1 a2) 3)), (37, 102, .string t411), (38, 103, .string ((((((((((⟨#[105, 102, 32]⟩ : ByteArray) ++ t401) ++ (⟨#[32]⟩ : ByteArray)) ++ (rdOf ByteArray.empty y402 (ji60))) ++ (⟨#[32]⟩ : ByteArray)) ++ t407) ++ (⟨#[32, 116, 104, 101, 110, 32]⟩ : ByteArray)) ++ t409) ++ (⟨#[32, 101, 108, 115, 101, 32]⟩ : ByteArray)) ++ t411)), (39, 12, .string ((((((((((⟨#[105, 102, 32]⟩ : ByteArray) ++ t401) ++ (⟨#[32]⟩ : ByteArray)) ++ (rdOf ByteArray.empty y402 (ji60))) ++ (⟨#[32]⟩ : ByteArray)) ++ t407) ++ (⟨#[32, 116, 104, 101, 110, 32]⟩ : ByteArray)) ++ t409) ++ (⟨#[32, 101, 108, 115, 101, 32]⟩ : ByteArray)) ++ t411))] ∧ (w'.heap[gb393]? = some (.cells #[.int .i64 ((rd_T73 l0 a2).f0), .int .i64 ((rd_T73 l0 a2).f1)] 73 (0, 0))) ∧ (Below w.heap.size w w') ∧ (b 8 = true → Kd.R Kd.string 9 w' w.heap.size (fun _ => True) v403 y402) ∧ (b 8 = true → ∃ c_, (v403 : Value) = .slice (some az403) y402.length c_) ∧ (b 12 = true → (m12_ : Value) = .pointer (some (az403.add ((ji60)).toNat)))) HT_.out HW_.out (by kernel_rfl) (by kernel_rfl) ?_ ?_ ?_
     ·exact ⟨.bool false, ⟨0, 0, none⟩, .bool false, by simp only [putSel, Bool.false_eq_true, if_false], BK393.out, HB.out, fun h_ => absurd h_ (by decide), fun h_ => absurd h_ (by decide), fun h_ => absurd h_ (by decide)⟩
     ·refine ?z8_
      let rec p8_ : type_of% ?z8_ := by(
      skip
      clear BK393 HB
      refine steps_cons ?_ ?_
      ·rintro b a w' ⟨v403, az403, m12_, ha, q2_, q6_, q4_, q0_, q5_⟩ hbq_ hon hoff
       refine ⟨_, rfl, fun K hK => ?_⟩
       have e67 : a.tmps[67]? = some (.slice (some ad400) (rd_L3 l1 a2).length c392_0) := pq_ ha rfl rfl
       replace ha := am_ ha
       have HB := am_ q6_
       have hs0_ := hcl_ HB hw400_0
       refine value_ (w1 := w') (v := .pointer (some ad400)) (by rfl) rfl ?_ ?_
       ·go_simp
        (try simp only [i64_w])
        try rfl
       refine hK.out _ _ ⟨v403, az403, m12_, (pu_ ha 0 hbq_ rfl rfl rfl), q2_, q6_, q4_, q0_, q5_⟩
      refine steps_cons ?_ ?_
      ·rintro b a w' ⟨v403, az403, m12_, ha, q2_, q6_, q4_, q0_, q5_⟩ hbq_ hon hoff
       refine ⟨_, rfl, fun K hK => ?_⟩
       have e68 := po_ ha 0 3 68 (.pointer (some ad400)) rfl rfl (hon 3 (by kernel_rfl)) rfl
       replace ha := am_ ha
       have HB := am_ q6_
       have hs0_ := hcl_ HB hw400_0
       refine value_ (w1 := w') (v := .int .i64 (rd (rd_L3 l1 a2) 0)) (by rfl) rfl ?_ ?_
       ·go_simp
        (try simp only [i64_w])
        try rfl
       refine hK.out _ _ ⟨v403, az403, m12_, (pu_ ha 1 hbq_ rfl rfl rfl), q2_, q6_, q4_, q0_, q5_⟩
      refine steps_cons ?_ ?_
      ·rintro b a w' ⟨v403, az403, m12_, ha, q2_, q6_, q4_, q0_, q5_⟩ hbq_ hon hoff
       refine ⟨_, rfl, fun K hK => ?_⟩
       have e65 : a.tmps[65]? = some (.slice (some ad391) l0.length c0) := pq_ ha rfl rfl
       have e66 : a.tmps[66]? = some (.slice (some ad392) l1.length c1) := pq_ ha rfl rfl
       have e69 := po_ ha 1 4 69 (.int .i64 (rd (rd_L3 l1 a2) 0)) rfl rfl (hon 4 (by kernel_rfl)) rfl
       replace ha := am_ ha
       have BK393 := am_ q2_
       have HB := am_ q6_
       refine goes_ Tryz.func47 (by kernel_rfl) rfl #[.slice (some ad391) l0.length c0, .slice (some ad392) l1.length c1, .int .i64 (rd (rd_L3 l1 a2) 0), .int .i64 1] (by rfl) rfl rfl (by simp only [List.map_toArray, List.map_cons, List.map_nil, Act.eval, Array.getD_eq_getD_getElem?, Option.getD_some, e65, e66, e69] <;> rfl) ?_
       with_reducible refine (ih k (by omega) _ _ l0 _ _ l1 (rd (rd_L3 l1 a2) 0) 1 t401 _ ?side1 ?side2 ?side3 ?side4 A57.out).mono ?_
       (case side1 => exact Kd.C_w HR0 HB)
       (case side2 => exact HC0.out)
       (case side3 => exact Kd.C_w HR1 HB)
       (case side4 => exact HC1.out)
       rintro e w86 ⟨rfl, hb⟩
       refine ⟨_, rfl, ?_⟩
       have n0_ := am_ (blk_below (kp_ BK393) hb)
       have n1_ := am_ (below_step (hb_ HB) hb)
       have z_HO404 := fun (h0_ : b 8 = true) => (show Kd.R Kd.string 9 w86 w.heap.size (fun _ => True) v403 y402 from by first | exact (Kd.R_below (Kd.R_pp ((q4_ h0_))) hb) | exact Kd.R_mono (Kd.R_below (Kd.R_pp ((q4_ h0_))) hb) (fun _ h_ => by first | trivial | exact h_ | exact h_.1))
       clear BK393
       clear HB
       have BK393 := n0_
       have HB := n1_
       clear n0_ n1_
       refine hK.out _ _ ⟨v403, az403, m12_, (pu_ ha 2 hbq_ rfl rfl rfl), (kp_ BK393), (hb_ HB), z_HO404, q0_, q5_⟩
      refine steps_cons ?_ ?_
      ·rintro b a w' ⟨v403, az403, m12_, ha, q2_, q6_, q4_, q0_, q5_⟩ hbq_ hon hoff
       refine ⟨_, rfl, fun K hK => ?_⟩
       have e70 := po_ ha 2 5 70 (.string t401) rfl rfl (hon 5 (by kernel_rfl)) rfl
       replace ha := am_ ha
       refine value_ (w1 := w') (v := .string ((⟨#[105, 102, 32]⟩ : ByteArray) ++ t401)) (by rfl) rfl ?_ ?_
       ·go_simp
        (try simp only [i64_w])
        try rfl
       refine hK.out _ _ ⟨v403, az403, m12_, (pu_ ha 3 hbq_ rfl rfl rfl), q2_, q6_, q4_, q0_, q5_⟩
      refine steps_cons ?_ ?_
      ·rintro b a w' ⟨v403, az403, m12_, ha, q2_, q6_, q4_, q0_, q5_⟩ hbq_ hon hoff
       refine ⟨_, rfl, fun K hK => ?_⟩
       have e71 := po_ ha 3 6 71 (.string ((⟨#[105, 102, 32]⟩ : ByteArray) ++ t401)) rfl rfl (hon 6 (by kernel_rfl)) rfl
       replace ha := am_ ha
       refine value_ (w1 := w') (v := .string (((⟨#[105, 102, 32]⟩ : ByteArray) ++ t401) ++ (⟨#[32]⟩ : ByteArray))) (by rfl) rfl ?_ ?_
       ·go_simp
        (try simp only [i64_w])
        try rfl
       refine hK.out _ _ ⟨v403, az403, m12_, (pu_ ha 4 hbq_ rfl rfl rfl), q2_, q6_, q4_, q0_, q5_⟩
      refine steps_cons ?_ ?_
      ·rintro b a w' ⟨v403, az403, m12_, ha, q2_, q6_, q4_, q0_, q5_⟩ hbq_ hon hoff
       refine ⟨_, rfl, fun K hK => ?_⟩
       replace ha := am_ ha
       have BK393 := am_ q2_
       have HB := am_ q6_
       refine Kd.R_lit_step Kd.string _ 9 ?hg (N := 73) ?hd (xs := ([⟨#[60]⟩, ⟨#[61]⟩, ⟨#[62]⟩] : List ByteArray)) (inner := [.string ⟨#[60]⟩, .string ⟨#[61]⟩, .string ⟨#[62]⟩]) (ok := fun _ => True) (okp := fun _ => True) ?hr ?hp (fun _ hk => hk) trivial (Below.refl _ _) (Nat.le_refl _) (by simp) ?_; (case hd => rfl); (case hg => rfl); (case hr => first | (go_simp; done) | (go_simp; rfl)); (case hp => exact (Reps.one (show Kd.M Kd.string _ _ _ (⟨#[60]⟩ : ByteArray) [.string ⟨#[60]⟩] from rfl) (Reps.one (show Kd.M Kd.string _ _ _ (⟨#[61]⟩ : ByteArray) [.string ⟨#[61]⟩] from rfl) (Reps.one (show Kd.M Kd.string _ _ _ (⟨#[62]⟩ : ByteArray) [.string ⟨#[62]⟩] from rfl) (Reps.none _ _)))))
       intro v403 w86 ho87 hb hg_ hnew_
       clear hg_ hnew_
       (first | rw [← Ny402.out] at ho87 | (simp only [Int.reduceToNat] at ho87; rw [← Ny402.out] at ho87))
       have HO404 := am_ (Kd.R_lower ho87 (below_size (hb_ HB)))
       replace BK393 := am_ (blk_below (kp_ BK393) hb)
       replace HB := am_ (below_step (hb_ HB) hb)
       clear hb ho87
       obtain ⟨Ao88, co88, eo88⟩ := Kd.R_slice HO404.out
       subst eo88
       obtain ⟨ado88, fo88, _⟩ := Kd.at_string (Kd.R_reads' HO404.out).2.2 0 (by decide) (by rw [Ny402.out]; simp)
       cases fo88
       refine hK.out _ _ ⟨.slice (some ado88) y402.length co88, ado88, m12_, (pu_ ha 5 hbq_ rfl rfl rfl), (kp_ BK393), (hb_ HB), fun _ => (Kd.R_p HO404), fun _ => ⟨_, rfl⟩, fun h0_ => absurd ((hoff 12 (by kernel_rfl)).symm.trans h0_) (by decide)⟩
      refine steps_cons ?_ ?_
      ·rintro b a w' ⟨v403, az403, m12_, ha, q2_, q6_, q4_, q0_, q5_⟩ hbq_ hon hoff
       refine ⟨_, rfl, fun K hK => ?_⟩
       have e74 : a.tmps[74]? = some (.pointer (some ⟨gb393, 0, none⟩)) := pq_ ha rfl rfl
       replace ha := am_ ha
       have BK393 := am_ q2_
       have hc0_ : w'.cell? ⟨gb393, 0, none⟩ = some (.int .i64 ((rd_T73 l0 a2).f0)) := (blk_cell BK393.out 0).trans rfl
       have hc1_ : w'.cell? ⟨gb393, 1, none⟩ = some (.int .i64 ((rd_T73 l0 a2).f1)) := (blk_cell BK393.out 1).trans rfl
       refine value_ (w1 := w') (v := .int .i64 ((rd_T73 l0 a2).f0)) (by rfl) rfl ?_ ?_
       ·go_simp
        (try simp only [i64_w])
        try rfl
       refine hK.out _ _ ⟨v403, az403, m12_, (pu_ ha 6 hbq_ rfl rfl rfl), q2_, q6_, q4_, q0_, fun h0_ => absurd ((hoff 12 (by kernel_rfl)).symm.trans h0_) (by decide)⟩
      refine steps_cons ?_ ?_
      ·rintro b a w' ⟨v403, az403, m12_, ha, q2_, q6_, q4_, q0_, q5_⟩ hbq_ hon hoff
       refine ⟨_, rfl, fun K hK => ?_⟩
       have e75 := po_ ha 6 10 75 (.int .i64 ((rd_T73 l0 a2).f0)) rfl rfl (hon 10 (by kernel_rfl)) rfl
       replace ha := am_ ha
       refine value_ (w1 := w') (v := .int .i64 ji60) (by rfl) rfl ?_ ?_
       ·go_simp
        (try simp only [i64_w])
        try rfl
       refine hK.out _ _ ⟨v403, az403, m12_, (pu_ ha 7 hbq_ rfl rfl rfl), q2_, q6_, q4_, q0_, fun h0_ => absurd ((hoff 12 (by kernel_rfl)).symm.trans h0_) (by decide)⟩
      refine steps_cons ?_ ?_
      ·rintro b a w' ⟨v403, az403, m12_, ha, q2_, q6_, q4_, q0_, q5_⟩ hbq_ hon hoff
       refine ⟨_, rfl, fun K hK => ?_⟩
       have e73 := po_ ha 5 8 73 (v403) rfl rfl (hon 8 (by kernel_rfl)) rfl
       have e76 := po_ ha 7 11 76 (.int .i64 ji60) rfl rfl (hon 11 (by kernel_rfl)) rfl
       replace ha := am_ ha
       have HO404 := am_ (q4_ (hon 8 (by kernel_rfl)))
       have HA_HO404 := am_ (q0_ (hon 8 (by kernel_rfl)))
       obtain ⟨c_, hv_⟩ := HA_HO404.out
       rw [hv_] at e73
       refine value_ (w1 := w') (v := .pointer (some (az403.add ((ji60)).toNat))) (by rfl) rfl ?_ ?_
       ·go_simp
        (try simp only [i64_w])
        try rfl
       refine hK.out _ _ ⟨v403, az403, (.pointer (some (az403.add ((ji60)).toNat))), (pu_ ha 8 hbq_ rfl rfl rfl), q2_, q6_, q4_, q0_, fun _ => rfl⟩
      refine steps_cons ?_ ?_
      ·rintro b a w' ⟨v403, az403, m12_, ha, q2_, q6_, q4_, q0_, q5_⟩ hbq_ hon hoff
       refine ⟨_, rfl, fun K hK => ?_⟩
       have e77 := po_ ha 8 12 77 (m12_) rfl rfl (hon 12 (by kernel_rfl)) rfl
       rw [q5_ (hon 12 (by kernel_rfl))] at e77
       replace ha := am_ ha
       have HO404 := am_ (q4_ (hon 8 (by kernel_rfl)))
       have HA_HO404 := am_ (q0_ (hon 8 (by kernel_rfl)))
       obtain ⟨c_, hv_⟩ := HA_HO404.out
       have hF_ := HO404.out
       rw [hv_] at hF_
       obtain ⟨ad_, ea_, hx_⟩ := Kd.at_string (Kd.R_reads' hF_).2.2 (ji60) (of_eq_true pi405) (of_eq_true qi405)
       cases ea_
       refine value_ (w1 := w') (v := .string (rdOf ByteArray.empty y402 (ji60))) (by rfl) rfl ?_ ?_
       ·go_simp
        (try simp only [i64_w])
        try rfl
       refine hK.out _ _ ⟨v403, az403, m12_, (pu_ ha 9 hbq_ rfl rfl rfl), q2_, q6_, q4_, q0_, q5_⟩
      refine steps_cons ?_ ?_
      ·rintro b a w' ⟨v403, az403, m12_, ha, q2_, q6_, q4_, q0_, q5_⟩ hbq_ hon hoff
       refine ⟨_, rfl, fun K hK => ?_⟩
       have e72 := po_ ha 4 7 72 (.string (((⟨#[105, 102, 32]⟩ : ByteArray) ++ t401) ++ (⟨#[32]⟩ : ByteArray))) rfl rfl (hon 7 (by kernel_rfl)) rfl
       have e78 := po_ ha 9 13 78 (.string (rdOf ByteArray.empty y402 (ji60))) rfl rfl (hon 13 (by kernel_rfl)) rfl
       replace ha := am_ ha
       have HO404 := am_ (q4_ (hon 8 (by kernel_rfl)))
       have HA_HO404 := am_ (q0_ (hon 8 (by kernel_rfl)))
       refine value_ (w1 := w') (v := .string ((((⟨#[105, 102, 32]⟩ : ByteArray) ++ t401) ++ (⟨#[32]⟩ : ByteArray)) ++ (rdOf ByteArray.empty y402 (ji60)))) (by rfl) rfl ?_ ?_
       ·go_simp
        (try simp only [i64_w])
        try rfl
       refine hK.out _ _ ⟨v403, az403, m12_, (pu_ ha 10 hbq_ rfl rfl rfl), q2_, q6_, q4_, q0_, q5_⟩
      refine steps_cons ?_ ?_
      ·rintro b a w' ⟨v403, az403, m12_, ha, q2_, q6_, q4_, q0_, q5_⟩ hbq_ hon hoff
       refine ⟨_, rfl, fun K hK => ?_⟩
       have e79 := po_ ha 10 14 79 (.string ((((⟨#[105, 102, 32]⟩ : ByteArray) ++ t401) ++ (⟨#[32]⟩ : ByteArray)) ++ (rdOf ByteArray.empty y402 (ji60)))) rfl rfl (hon 14 (by kernel_rfl)) rfl
       replace ha := am_ ha
       have HO404 := am_ (q4_ (hon 8 (by kernel_rfl)))
       have HA_HO404 := am_ (q0_ (hon 8 (by kernel_rfl)))
       refine value_ (w1 := w') (v := .string (((((⟨#[105, 102, 32]⟩ : ByteArray) ++ t401) ++ (⟨#[32]⟩ : ByteArray)) ++ (rdOf ByteArray.empty y402 (ji60))) ++ (⟨#[32]⟩ : ByteArray))) (by rfl) rfl ?_ ?_
       ·go_simp
        (try simp only [i64_w])
        try rfl
       refine hK.out _ _ ⟨v403, az403, m12_, (pu_ ha 11 hbq_ rfl rfl rfl), q2_, q6_, q4_, q0_, q5_⟩
      refine steps_cons ?_ ?_
      ·rintro b a w' ⟨v403, az403, m12_, ha, q2_, q6_, q4_, q0_, q5_⟩ hbq_ hon hoff
       refine ⟨_, rfl, fun K hK => ?_⟩
       have e83 : a.tmps[83]? = some (.slice (some ad400) (rd_L3 l1 a2).length c392_0) := pq_ ha rfl rfl
       replace ha := am_ ha
       have HB := am_ q6_
       have hs1_ := hcl_ HB hw406_0
       refine value_ (w1 := w') (v := .pointer (some (ad400.add 1))) (by rfl) rfl ?_ ?_
       ·go_simp
        (try simp only [i64_w])
        try rfl
       refine hK.out _ _ ⟨v403, az403, m12_, (pu_ ha 12 hbq_ rfl rfl rfl), q2_, q6_, q4_, q0_, q5_⟩
      refine steps_cons ?_ ?_
      ·rintro b a w' ⟨v403, az403, m12_, ha, q2_, q6_, q4_, q0_, q5_⟩ hbq_ hon hoff
       refine ⟨_, rfl, fun K hK => ?_⟩
       have e84 := po_ ha 12 19 84 (.pointer (some (ad400.add 1))) rfl rfl (hon 19 (by kernel_rfl)) rfl
       replace ha := am_ ha
       have HB := am_ q6_
       have hs1_ := hcl_ HB hw406_0
       refine value_ (w1 := w') (v := .int .i64 (rd (rd_L3 l1 a2) 1)) (by rfl) rfl ?_ ?_
       ·go_simp
        (try simp only [i64_w])
        try rfl
       refine hK.out _ _ ⟨v403, az403, m12_, (pu_ ha 13 hbq_ rfl rfl rfl), q2_, q6_, q4_, q0_, q5_⟩
      refine steps_cons ?_ ?_
      ·rintro b a w' ⟨v403, az403, m12_, ha, q2_, q6_, q4_, q0_, q5_⟩ hbq_ hon hoff
       refine ⟨_, rfl, fun K hK => ?_⟩
       have e81 : a.tmps[81]? = some (.slice (some ad391) l0.length c0) := pq_ ha rfl rfl
       have e82 : a.tmps[82]? = some (.slice (some ad392) l1.length c1) := pq_ ha rfl rfl
       have e85 := po_ ha 13 20 85 (.int .i64 (rd (rd_L3 l1 a2) 1)) rfl rfl (hon 20 (by kernel_rfl)) rfl
       replace ha := am_ ha
       have BK393 := am_ q2_
       have HB := am_ q6_
       refine goes_ Tryz.func47 (by kernel_rfl) rfl #[.slice (some ad391) l0.length c0, .slice (some ad392) l1.length c1, .int .i64 (rd (rd_L3 l1 a2) 1), .int .i64 1] (by rfl) rfl rfl (by simp only [List.map_toArray, List.map_cons, List.map_nil, Act.eval, Array.getD_eq_getD_getElem?, Option.getD_some, e81, e82, e85] <;> rfl) ?_
       with_reducible refine (ih k (by omega) _ _ l0 _ _ l1 (rd (rd_L3 l1 a2) 1) 1 t407 _ ?side1 ?side2 ?side3 ?side4 A66.out).mono ?_
       (case side1 => exact Kd.C_w HR0 HB)
       (case side2 => exact HC0.out)
       (case side3 => exact Kd.C_w HR1 HB)
       (case side4 => exact HC1.out)
       rintro e w88 ⟨rfl, hb⟩
       refine ⟨_, rfl, ?_⟩
       have n0_ := am_ (blk_below (kp_ BK393) hb)
       have n1_ := am_ (below_step (hb_ HB) hb)
       have z_HO404 := fun (h0_ : b 8 = true) => (show Kd.R Kd.string 9 w88 w.heap.size (fun _ => True) v403 y402 from by first | exact (Kd.R_below (Kd.R_pp ((q4_ h0_))) hb) | exact Kd.R_mono (Kd.R_below (Kd.R_pp ((q4_ h0_))) hb) (fun _ h_ => by first | trivial | exact h_ | exact h_.1))
       clear BK393
       clear HB
       have BK393 := n0_
       have HB := n1_
       clear n0_ n1_
       refine hK.out _ _ ⟨v403, az403, m12_, (pu_ ha 14 hbq_ rfl rfl rfl), (kp_ BK393), (hb_ HB), z_HO404, q0_, q5_⟩
      refine steps_cons ?_ ?_
      ·rintro b a w' ⟨v403, az403, m12_, ha, q2_, q6_, q4_, q0_, q5_⟩ hbq_ hon hoff
       refine ⟨_, rfl, fun K hK => ?_⟩
       have e80 := po_ ha 11 15 80 (.string (((((⟨#[105, 102, 32]⟩ : ByteArray) ++ t401) ++ (⟨#[32]⟩ : ByteArray)) ++ (rdOf ByteArray.empty y402 (ji60))) ++ (⟨#[32]⟩ : ByteArray))) rfl rfl (hon 15 (by kernel_rfl)) rfl
       have e86 := po_ ha 14 21 86 (.string t407) rfl rfl (hon 21 (by kernel_rfl)) rfl
       replace ha := am_ ha
       have HO404 := am_ (q4_ (hon 8 (by kernel_rfl)))
       have HA_HO404 := am_ (q0_ (hon 8 (by kernel_rfl)))
       refine value_ (w1 := w') (v := .string ((((((⟨#[105, 102, 32]⟩ : ByteArray) ++ t401) ++ (⟨#[32]⟩ : ByteArray)) ++ (rdOf ByteArray.empty y402 (ji60))) ++ (⟨#[32]⟩ : ByteArray)) ++ t407)) (by rfl) rfl ?_ ?_
       ·go_simp
        (try simp only [i64_w])
        try rfl
       refine hK.out _ _ ⟨v403, az403, m12_, (pu_ ha 15 hbq_ rfl rfl rfl), q2_, q6_, q4_, q0_, q5_⟩
      refine steps_cons ?_ ?_
      ·rintro b a w' ⟨v403, az403, m12_, ha, q2_, q6_, q4_, q0_, q5_⟩ hbq_ hon hoff
       refine ⟨_, rfl, fun K hK => ?_⟩
       have e87 := po_ ha 15 22 87 (.string ((((((⟨#[105, 102, 32]⟩ : ByteArray) ++ t401) ++ (⟨#[32]⟩ : ByteArray)) ++ (rdOf ByteArray.empty y402 (ji60))) ++ (⟨#[32]⟩ : ByteArray)) ++ t407)) rfl rfl (hon 22 (by kernel_rfl)) rfl
       replace ha := am_ ha
       have HO404 := am_ (q4_ (hon 8 (by kernel_rfl)))
       have HA_HO404 := am_ (q0_ (hon 8 (by kernel_rfl)))
       refine value_ (w1 := w') (v := .string (((((((⟨#[105, 102, 32]⟩ : ByteArray) ++ t401) ++ (⟨#[32]⟩ : ByteArray)) ++ (rdOf ByteArray.empty y402 (ji60))) ++ (⟨#[32]⟩ : ByteArray)) ++ t407) ++ (⟨#[32, 116, 104, 101, 110, 32]⟩ : ByteArray))) (by rfl) rfl ?_ ?_
       ·go_simp
        (try simp only [i64_w])
        try rfl
       refine hK.out _ _ ⟨v403, az403, m12_, (pu_ ha 16 hbq_ rfl rfl rfl), q2_, q6_, q4_, q0_, q5_⟩
      refine steps_cons ?_ ?_
      ·rintro b a w' ⟨v403, az403, m12_, ha, q2_, q6_, q4_, q0_, q5_⟩ hbq_ hon hoff
       refine ⟨_, rfl, fun K hK => ?_⟩
       have e91 : a.tmps[91]? = some (.slice (some ad400) (rd_L3 l1 a2).length c392_0) := pq_ ha rfl rfl
       replace ha := am_ ha
       have HB := am_ q6_
       have hs2_ := hcl_ HB hw408_0
       refine value_ (w1 := w') (v := .pointer (some (ad400.add 2))) (by rfl) rfl ?_ ?_
       ·go_simp
        (try simp only [i64_w])
        try rfl
       refine hK.out _ _ ⟨v403, az403, m12_, (pu_ ha 17 hbq_ rfl rfl rfl), q2_, q6_, q4_, q0_, q5_⟩
      refine steps_cons ?_ ?_
      ·rintro b a w' ⟨v403, az403, m12_, ha, q2_, q6_, q4_, q0_, q5_⟩ hbq_ hon hoff
       refine ⟨_, rfl, fun K hK => ?_⟩
       have e92 := po_ ha 17 27 92 (.pointer (some (ad400.add 2))) rfl rfl (hon 27 (by kernel_rfl)) rfl
       replace ha := am_ ha
       have HB := am_ q6_
       have hs2_ := hcl_ HB hw408_0
       refine value_ (w1 := w') (v := .int .i64 (rd (rd_L3 l1 a2) 2)) (by rfl) rfl ?_ ?_
       ·go_simp
        (try simp only [i64_w])
        try rfl
       refine hK.out _ _ ⟨v403, az403, m12_, (pu_ ha 18 hbq_ rfl rfl rfl), q2_, q6_, q4_, q0_, q5_⟩
      refine steps_cons ?_ ?_
      ·rintro b a w' ⟨v403, az403, m12_, ha, q2_, q6_, q4_, q0_, q5_⟩ hbq_ hon hoff
       refine ⟨_, rfl, fun K hK => ?_⟩
       have e89 : a.tmps[89]? = some (.slice (some ad391) l0.length c0) := pq_ ha rfl rfl
       have e90 : a.tmps[90]? = some (.slice (some ad392) l1.length c1) := pq_ ha rfl rfl
       have e93 := po_ ha 18 28 93 (.int .i64 (rd (rd_L3 l1 a2) 2)) rfl rfl (hon 28 (by kernel_rfl)) rfl
       replace ha := am_ ha
       have BK393 := am_ q2_
       have HB := am_ q6_
       refine goes_ Tryz.func47 (by kernel_rfl) rfl #[.slice (some ad391) l0.length c0, .slice (some ad392) l1.length c1, .int .i64 (rd (rd_L3 l1 a2) 2), .int .i64 0] (by rfl) rfl rfl (by simp only [List.map_toArray, List.map_cons, List.map_nil, Act.eval, Array.getD_eq_getD_getElem?, Option.getD_some, e89, e90, e93] <;> rfl) ?_
       with_reducible refine (ih k (by omega) _ _ l0 _ _ l1 (rd (rd_L3 l1 a2) 2) 0 t409 _ ?side1 ?side2 ?side3 ?side4 A70.out).mono ?_
       (case side1 => exact Kd.C_w HR0 HB)
       (case side2 => exact HC0.out)
       (case side3 => exact Kd.C_w HR1 HB)
       (case side4 => exact HC1.out)
       rintro e w89 ⟨rfl, hb⟩
       refine ⟨_, rfl, ?_⟩
       have n0_ := am_ (blk_below (kp_ BK393) hb)
       have n1_ := am_ (below_step (hb_ HB) hb)
       have z_HO404 := fun (h0_ : b 8 = true) => (show Kd.R Kd.string 9 w89 w.heap.size (fun _ => True) v403 y402 from by first | exact (Kd.R_below (Kd.R_pp ((q4_ h0_))) hb) | exact Kd.R_mono (Kd.R_below (Kd.R_pp ((q4_ h0_))) hb) (fun _ h_ => by first | trivial | exact h_ | exact h_.1))
       clear BK393
       clear HB
       have BK393 := n0_
       have HB := n1_
       clear n0_ n1_
       refine hK.out _ _ ⟨v403, az403, m12_, (pu_ ha 19 hbq_ rfl rfl rfl), (kp_ BK393), (hb_ HB), z_HO404, q0_, q5_⟩
      refine steps_cons ?_ ?_
      ·rintro b a w' ⟨v403, az403, m12_, ha, q2_, q6_, q4_, q0_, q5_⟩ hbq_ hon hoff
       refine ⟨_, rfl, fun K hK => ?_⟩
       have e88 := po_ ha 16 23 88 (.string (((((((⟨#[105, 102, 32]⟩ : ByteArray) ++ t401) ++ (⟨#[32]⟩ : ByteArray)) ++ (rdOf ByteArray.empty y402 (ji60))) ++ (⟨#[32]⟩ : ByteArray)) ++ t407) ++ (⟨#[32, 116, 104, 101, 110, 32]⟩ : ByteArray))) rfl rfl (hon 23 (by kernel_rfl)) rfl
       have e94 := po_ ha 19 29 94 (.string t409) rfl rfl (hon 29 (by kernel_rfl)) rfl
       replace ha := am_ ha
       have HO404 := am_ (q4_ (hon 8 (by kernel_rfl)))
       have HA_HO404 := am_ (q0_ (hon 8 (by kernel_rfl)))
       refine value_ (w1 := w') (v := .string ((((((((⟨#[105, 102, 32]⟩ : ByteArray) ++ t401) ++ (⟨#[32]⟩ : ByteArray)) ++ (rdOf ByteArray.empty y402 (ji60))) ++ (⟨#[32]⟩ : ByteArray)) ++ t407) ++ (⟨#[32, 116, 104, 101, 110, 32]⟩ : ByteArray)) ++ t409)) (by rfl) rfl ?_ ?_
       ·go_simp
        (try simp only [i64_w])
        try rfl
       refine hK.out _ _ ⟨v403, az403, m12_, (pu_ ha 20 hbq_ rfl rfl rfl), q2_, q6_, q4_, q0_, q5_⟩
      refine steps_cons ?_ ?_
      ·rintro b a w' ⟨v403, az403, m12_, ha, q2_, q6_, q4_, q0_, q5_⟩ hbq_ hon hoff
       refine ⟨_, rfl, fun K hK => ?_⟩
       have e95 := po_ ha 20 30 95 (.string ((((((((⟨#[105, 102, 32]⟩ : ByteArray) ++ t401) ++ (⟨#[32]⟩ : ByteArray)) ++ (rdOf ByteArray.empty y402 (ji60))) ++ (⟨#[32]⟩ : ByteArray)) ++ t407) ++ (⟨#[32, 116, 104, 101, 110, 32]⟩ : ByteArray)) ++ t409)) rfl rfl (hon 30 (by kernel_rfl)) rfl
       replace ha := am_ ha
       have HO404 := am_ (q4_ (hon 8 (by kernel_rfl)))
       have HA_HO404 := am_ (q0_ (hon 8 (by kernel_rfl)))
       refine value_ (w1 := w') (v := .string (((((((((⟨#[105, 102, 32]⟩ : ByteArray) ++ t401) ++ (⟨#[32]⟩ : ByteArray)) ++ (rdOf ByteArray.empty y402 (ji60))) ++ (⟨#[32]⟩ : ByteArray)) ++ t407) ++ (⟨#[32, 116, 104, 101, 110, 32]⟩ : ByteArray)) ++ t409) ++ (⟨#[32, 101, 108, 115, 101, 32]⟩ : ByteArray))) (by rfl) rfl ?_ ?_
       ·go_simp
        (try simp only [i64_w])
        try rfl
       refine hK.out _ _ ⟨v403, az403, m12_, (pu_ ha 21 hbq_ rfl rfl rfl), q2_, q6_, q4_, q0_, q5_⟩
      refine steps_cons ?_ ?_
      ·rintro b a w' ⟨v403, az403, m12_, ha, q2_, q6_, q4_, q0_, q5_⟩ hbq_ hon hoff
       refine ⟨_, rfl, fun K hK => ?_⟩
       have e99 : a.tmps[99]? = some (.slice (some ad400) (rd_L3 l1 a2).length c392_0) := pq_ ha rfl rfl
       replace ha := am_ ha
       have HB := am_ q6_
       have hs3_ := hcl_ HB hw410_0
       refine value_ (w1 := w') (v := .pointer (some (ad400.add 3))) (by rfl) rfl ?_ ?_
       ·go_simp
        (try simp only [i64_w])
        try rfl
       refine hK.out _ _ ⟨v403, az403, m12_, (pu_ ha 22 hbq_ rfl rfl rfl), q2_, q6_, q4_, q0_, q5_⟩
      refine steps_cons ?_ ?_
      ·rintro b a w' ⟨v403, az403, m12_, ha, q2_, q6_, q4_, q0_, q5_⟩ hbq_ hon hoff
       refine ⟨_, rfl, fun K hK => ?_⟩
       have e100 := po_ ha 22 35 100 (.pointer (some (ad400.add 3))) rfl rfl (hon 35 (by kernel_rfl)) rfl
       replace ha := am_ ha
       have HB := am_ q6_
       have hs3_ := hcl_ HB hw410_0
       refine value_ (w1 := w') (v := .int .i64 (rd (rd_L3 l1 a2) 3)) (by rfl) rfl ?_ ?_
       ·go_simp
        (try simp only [i64_w])
        try rfl
       refine hK.out _ _ ⟨v403, az403, m12_, (pu_ ha 23 hbq_ rfl rfl rfl), q2_, q6_, q4_, q0_, q5_⟩
      refine steps_cons ?_ ?_
      ·rintro b a w' ⟨v403, az403, m12_, ha, q2_, q6_, q4_, q0_, q5_⟩ hbq_ hon hoff
       refine ⟨_, rfl, fun K hK => ?_⟩
       have e97 : a.tmps[97]? = some (.slice (some ad391) l0.length c0) := pq_ ha rfl rfl
       have e98 : a.tmps[98]? = some (.slice (some ad392) l1.length c1) := pq_ ha rfl rfl
       have e101 := po_ ha 23 36 101 (.int .i64 (rd (rd_L3 l1 a2) 3)) rfl rfl (hon 36 (by kernel_rfl)) rfl
       replace ha := am_ ha
       have BK393 := am_ q2_
       have HB := am_ q6_
       refine goes_ Tryz.func47 (by kernel_rfl) rfl #[.slice (some ad391) l0.length c0, .slice (some ad392) l1.length c1, .int .i64 (rd (rd_L3 l1 a2) 3), .int .i64 0] (by rfl) rfl rfl (by simp only [List.map_toArray, List.map_cons, List.map_nil, Act.eval, Array.getD_eq_getD_getElem?, Option.getD_some, e97, e98, e101] <;> rfl) ?_
       with_reducible refine (ih k (by omega) _ _ l0 _ _ l1 (rd (rd_L3 l1 a2) 3) 0 t411 _ ?side1 ?side2 ?side3 ?side4 A74.out).mono ?_
       (case side1 => exact Kd.C_w HR0 HB)
       (case side2 => exact HC0.out)
       (case side3 => exact Kd.C_w HR1 HB)
       (case side4 => exact HC1.out)
       rintro e w90 ⟨rfl, hb⟩
       refine ⟨_, rfl, ?_⟩
       have n0_ := am_ (blk_below (kp_ BK393) hb)
       have n1_ := am_ (below_step (hb_ HB) hb)
       have z_HO404 := fun (h0_ : b 8 = true) => (show Kd.R Kd.string 9 w90 w.heap.size (fun _ => True) v403 y402 from by first | exact (Kd.R_below (Kd.R_pp ((q4_ h0_))) hb) | exact Kd.R_mono (Kd.R_below (Kd.R_pp ((q4_ h0_))) hb) (fun _ h_ => by first | trivial | exact h_ | exact h_.1))
       clear BK393
       clear HB
       have BK393 := n0_
       have HB := n1_
       clear n0_ n1_
       refine hK.out _ _ ⟨v403, az403, m12_, (pu_ ha 24 hbq_ rfl rfl rfl), (kp_ BK393), (hb_ HB), z_HO404, q0_, q5_⟩
      refine steps_cons ?_ ?_
      ·rintro b a w' ⟨v403, az403, m12_, ha, q2_, q6_, q4_, q0_, q5_⟩ hbq_ hon hoff
       refine ⟨_, rfl, fun K hK => ?_⟩
       have e96 := po_ ha 21 31 96 (.string (((((((((⟨#[105, 102, 32]⟩ : ByteArray) ++ t401) ++ (⟨#[32]⟩ : ByteArray)) ++ (rdOf ByteArray.empty y402 (ji60))) ++ (⟨#[32]⟩ : ByteArray)) ++ t407) ++ (⟨#[32, 116, 104, 101, 110, 32]⟩ : ByteArray)) ++ t409) ++ (⟨#[32, 101, 108, 115, 101, 32]⟩ : ByteArray))) rfl rfl (hon 31 (by kernel_rfl)) rfl
       have e102 := po_ ha 24 37 102 (.string t411) rfl rfl (hon 37 (by kernel_rfl)) rfl
       replace ha := am_ ha
       have HO404 := am_ (q4_ (hon 8 (by kernel_rfl)))
       have HA_HO404 := am_ (q0_ (hon 8 (by kernel_rfl)))
       refine value_ (w1 := w') (v := .string ((((((((((⟨#[105, 102, 32]⟩ : ByteArray) ++ t401) ++ (⟨#[32]⟩ : ByteArray)) ++ (rdOf ByteArray.empty y402 (ji60))) ++ (⟨#[32]⟩ : ByteArray)) ++ t407) ++ (⟨#[32, 116, 104, 101, 110, 32]⟩ : ByteArray)) ++ t409) ++ (⟨#[32, 101, 108, 115, 101, 32]⟩ : ByteArray)) ++ t411)) (by rfl) rfl ?_ ?_
       ·go_simp
        (try simp only [i64_w])
        try rfl
       refine hK.out _ _ ⟨v403, az403, m12_, (pu_ ha 25 hbq_ rfl rfl rfl), q2_, q6_, q4_, q0_, q5_⟩
      refine steps_cons ?_ ?_
      ·rintro b a w' ⟨v403, az403, m12_, ha, q2_, q6_, q4_, q0_, q5_⟩ hbq_ hon hoff
       refine ⟨_, rfl, fun K hK => ?_⟩
       have e103 := po_ ha 25 38 103 (.string ((((((((((⟨#[105, 102, 32]⟩ : ByteArray) ++ t401) ++ (⟨#[32]⟩ : ByteArray)) ++ (rdOf ByteArray.empty y402 (ji60))) ++ (⟨#[32]⟩ : ByteArray)) ++ t407) ++ (⟨#[32, 116, 104, 101, 110, 32]⟩ : ByteArray)) ++ t409) ++ (⟨#[32, 101, 108, 115, 101, 32]⟩ : ByteArray)) ++ t411)) rfl rfl (hon 38 (by kernel_rfl)) rfl
       replace ha := am_ ha
       have HO404 := am_ (q4_ (hon 8 (by kernel_rfl)))
       have HA_HO404 := am_ (q0_ (hon 8 (by kernel_rfl)))
       refine value_ (w1 := w') (v := .string ((((((((((⟨#[105, 102, 32]⟩ : ByteArray) ++ t401) ++ (⟨#[32]⟩ : ByteArray)) ++ (rdOf ByteArray.empty y402 (ji60))) ++ (⟨#[32]⟩ : ByteArray)) ++ t407) ++ (⟨#[32, 116, 104, 101, 110, 32]⟩ : ByteArray)) ++ t409) ++ (⟨#[32, 101, 108, 115, 101, 32]⟩ : ByteArray)) ++ t411)) (by rfl) rfl ?_ ?_
       ·go_simp
        (try simp only [i64_w])
        try rfl
       refine hK.out _ _ ⟨v403, az403, m12_, (pu_ ha 26 hbq_ rfl rfl rfl), q2_, q6_, q4_, q0_, q5_⟩
      exact steps_nil
      )
      exact p8_
     rintro b a w93 hall ⟨v403, az403, m12_, ha, q2_, q6_, q4_, q0_, q5_⟩
     clear BK393 HB
     have hb3_ := hall 3 (by kernel_rfl)
     have hb4_ := hall 4 (by kernel_rfl)
     have hb5_ := hall 5 (by kernel_rfl)
     have hb6_ := hall 6 (by kernel_rfl)
     have hb7_ := hall 7 (by kernel_rfl)
     have hb8_ := hall 8 (by kernel_rfl)
     have hb10_ := hall 10 (by kernel_rfl)
     have hb11_ := hall 11 (by kernel_rfl)
     have hb12_ := hall 12 (by kernel_rfl)
     have hb13_ := hall 13 (by kernel_rfl)
     have hb14_ := hall 14 (by kernel_rfl)
     have hb15_ := hall 15 (by kernel_rfl)
     have hb19_ := hall 19 (by kernel_rfl)
     have hb20_ := hall 20 (by kernel_rfl)
     have hb21_ := hall 21 (by kernel_rfl)
     have hb22_ := hall 22 (by kernel_rfl)
     have hb23_ := hall 23 (by kernel_rfl)
     have hb27_ := hall 27 (by kernel_rfl)
     have hb28_ := hall 28 (by kernel_rfl)
     have hb29_ := hall 29 (by kernel_rfl)
     have hb30_ := hall 30 (by kernel_rfl)
     have hb31_ := hall 31 (by kernel_rfl)
     have hb35_ := hall 35 (by kernel_rfl)
     have hb36_ := hall 36 (by kernel_rfl)
     have hb37_ := hall 37 (by kernel_rfl)
     have hb38_ := hall 38 (by kernel_rfl)
     have hb39_ := hall 39 (by kernel_rfl)
     subst ha
     obtain rfl := q5_ hb12_
     simp only [putSel, hb3_, hb4_, hb5_, hb6_, hb7_, hb8_, hb10_, hb11_, hb12_, hb13_, hb14_, hb15_, hb19_, hb20_, hb21_, hb22_, hb23_, hb27_, hb28_, hb29_, hb30_, hb31_, hb35_, hb36_, hb37_, hb38_, hb39_, if_true, Act.put, List.setIfInBounds_toArray, List.set_cons_zero, List.set_cons_succ]
     have BK393 := am_ q2_
     clear q2_
     have HB := am_ q6_
     clear q6_
     have HO404 := am_ (q4_ hb8_)
     clear q4_
     have HA_HO404 := am_ (q0_ hb8_)
     clear q0_
     clear hall hb3_ hb4_ hb5_ hb6_ hb7_ hb8_ hb10_ hb11_ hb12_ hb13_ hb14_ hb15_ hb19_ hb20_ hb21_ hb22_ hb23_ hb27_ hb28_ hb29_ hb30_ hb31_ hb35_ hb36_ hb37_ hb38_ hb39_
     obtain ⟨co94, eo94⟩ := HA_HO404.out
     clear HA_HO404
     subst eo94
     try go_wp2
     go_ret
     exact ⟨by first | rfl | (simp [errW_none, errW_some] <;> rfl) | (simp only [← hji60]; first | rfl | (simp [errW_none, errW_some] <;> rfl)) | (simp [*, errW_none, errW_some] <;> rfl), hb_ HB⟩
     )
     exact p7_
    refine ?z9_
    let rec p9_ : type_of% ?z9_ := by(
    rw [if_neg c76] at H
    have c76b0 := decide_eq_false c76
    clear c76
    obtain rfl := Option.some.inj H
    go_enter Tryz.func47, Tryz.ntmps47
    try go_wp2
    replace HB := am_ (below_drew1 HB.out)
    have p391 : 0 ≤ (a2 : Int) := od_
    have q391 : a2 < (l0.length : Int) := od_
    obtain ⟨ad391, e391, hx391_0, hx391_1⟩ := at_T73 HR0.out a2 p391 q391
    have hw391_1 := hx391_1
    have hw391_0 := hx391_0
    cases e391
    replace hx391_0 := hc_ HB hx391_0
    replace hx391_1 := hc_ HB hx391_1
    replace p391 := eq_true p391
    replace q391 := eq_true q391
    have p392 : 0 ≤ (a2 : Int) := od_
    have q392 : a2 < (l1.length : Int) := od_
    obtain ⟨ad392, A392_0, c392_0, e392, hx392_0, hl392_0, hi392_0⟩ := at_L3 HR1.out a2 p392 q392
    have hw392_0 := hx392_0
    cases e392
    replace hx392_0 := hc_ HB hx392_0
    have HR392_0 := am_ hi392_0
    have HC392_0 := am_ hl392_0
    clear hi392_0 hl392_0
    replace p392 := eq_true p392
    replace q392 := eq_true q392
    refine start_ (n := 11) (S := fun w' => w'.cell? (ad391.add ((a2).toNat * 2)) = some (.int .i64 ((rd_T73 l0 a2).f0)) ∧ w'.cell? ⟨(ad391.add ((a2).toNat * 2)).block, (ad391.add ((a2).toNat * 2)).off + 1, none⟩ = some (.int .i64 ((rd_T73 l0 a2).f1)) ∧ w'.cell? (ad392.add (a2).toNat) = some (.slice A392_0 (rd_L3 l1 a2).length c392_0)) (ds := []) (bb 11 0) (by kernel_rfl) rfl rfl ⟨(hcl_ HB hw391_0), (hcl_ HB hw391_1), (hcl_ HB hw392_0)⟩ (fun hHeld => ?_); refine with_tabW spec_ruShow.tab1 spec_ruShow.bits1 (fun HT_ HW_ => ?_)
    generalize w.drew = w95 at HB HR392_0 hx391_0 hx391_1 hx392_0 hHeld ⊢
    refine pm_ HT_ 0 13 11 1 ?_
    refine pm_ HT_ 1 14 11 3 ?_
    refine pm_ HT_ 2 15 11 7 ?_
    refine pm_ HT_ 4 17 11 23 ?_
    refine pm_ HT_ 5 18 11 55 ?_
    refine pm_ HT_ 6 19 11 119 ?_
    refine tk_ HT_ HW_ hHeld 3 (some 16) (bb 11 127) (h := ?_)
    refine tk_ HT_ HW_ hHeld 7 (some 20) (bb 11 255) (h := ?_)
    refine one_ (i := 8) (N := some 9) (bb 11 511) rfl rfl (one_of HT_.out (by kernel_rfl)) (by decide) (fun K hK => ?_)
    refine box_step ?hg (N := 9) ?hd (cs := #[.int .i64 0, .int .i64 0]) (t := 73) ?hr ?_; (case hd => rfl); (case hg => rfl); (case hr => first | (go_simp; done) | (go_simp; rfl))
    intro gb393 hg w96 hbox hb
    have n0_ := am_ (below_step (hb_ HB) hb)
    have n1_ := am_ (hbox)
    have n2_ := am_ ((by rw [hg]; exact (below_size (hb_ HB)) : w.heap.size ≤ gb393))
    have n3_ := am_ ((by rw [hg]; exact (below_size (hb_ HB)) : w.heap.size ≤ gb393))
    clear HB
    have HB := n0_
    have BK393 := n1_
    have GW393 := n2_
    have GE393 := n3_
    clear n0_ n1_ n2_ n3_
    clear hb hbox hg
    refine hK.out _ _ ⟨(hcl_ HB hw391_0), (hcl_ HB hw391_1), (hcl_ HB hw392_0)⟩ (fun hHeld => ?_)
    clear hK K
    refine nm_ (some 9) (h := ?_)
    refine one_ (i := 9) (N := none) (bb 11 1023) rfl rfl (one_of HT_.out (by kernel_rfl)) (by decide) (fun K hK => ?_)
    have hs97 : w96.cell? ⟨gb393, 0, none⟩ = some (.int .i64 0) := (blk_cell BK393.out 0).trans rfl
    have hfs97 := blk_frozen BK393.out 0
    have hs98 : w96.cell? ⟨gb393, 1, none⟩ = some (.int .i64 0) := (blk_cell BK393.out 1).trans rfl
    have hfs98 := blk_frozen BK393.out 1
    refine skip_ (w1 := ?_) (by rfl) rfl ?_ ?_
    rotate_left
    ·go_simp
     rfl
    refine hK.out _ _ ⟨((cfr_ hw391_0 GW393.out).trans (((cfr_ hw391_0 GW393.out).trans (hHeld.1)))), ((cfr_ hw391_1 GW393.out).trans (((cfr_ hw391_1 GW393.out).trans (hHeld.2.1)))), ((cfr_ hw392_0 GW393.out).trans (((cfr_ hw392_0 GW393.out).trans (hHeld.2.2))))⟩ (fun hHeld => ?_)
    clear hK K
    refine pm_ HT_ 10 10 11 2047 ?_
    refine done_ (done_of HT_.out (by kernel_rfl)) ?_
    obtain ⟨hcz99_0, hcz99_1, hfz99_0, hfz99_1⟩ := bx2 BK393
    try go_wp2_with (first | ((with_reducible refine gk_ 66 ?_); refine gq_ 23 Tryz.func66 #[.int .i64 ((rd_T73 l0 a2).f0)] ?_; (with_reducible refine (spec_ruLevel.calls ((rd_T73 l0 a2).f0) t394 _ A8.out).mono ?_); rintro e w' ⟨rfl, ⟨nd, rfl⟩⟩; refine ⟨_, rfl, ?_⟩))
    have pi405 : (0 ≤ ((ji60) : Int)) = True := eq_true (od_)
    have qi405 : ((ji60) < (y402.length : Int)) = True := eq_true (od_)
    have n0_ : Aside0 (((w96.setCell ⟨gb393, 0, none⟩ (.int .i64 ((rd_T73 l0 a2).f0))).setCell ⟨gb393, 1, none⟩ (.int .i64 ((rd_T73 l0 a2).f1))).heap[gb393]? = some (.cells #[.int .i64 ((rd_T73 l0 a2).f0), .int .i64 ((rd_T73 l0 a2).f1)] 73 (0, 0))) := ⟨kpq_ (kputs BK393 [(0, _), (1, _)])⟩
    have n1_ : Aside0 (Below w.heap.size w ((w96.setCell ⟨gb393, 0, none⟩ (.int .i64 ((rd_T73 l0 a2).f0))).setCell ⟨gb393, 1, none⟩ (.int .i64 ((rd_T73 l0 a2).f1)))) := ⟨hb_ HB⟩
    generalize ((w96.setCell ⟨gb393, 0, none⟩ (.int .i64 ((rd_T73 l0 a2).f0))).setCell ⟨gb393, 1, none⟩ (.int .i64 ((rd_T73 l0 a2).f1))) = w100 at n0_ n1_ ⊢
    have BK393 := n0_
    have HB := n1_
    clear n0_ n1_
    (try (rw [drewN_self w100]; generalize hq_ : World.drewN w100 _ = w100; have n0_ : Aside0 (w100.heap[gb393]? = some (.cells #[.int .i64 ((rd_T73 l0 a2).f0), .int .i64 ((rd_T73 l0 a2).f1)] 73 (0, 0))) := ⟨by rw [← hq_]; exact (kp_ BK393)⟩; have n1_ : Aside0 (Below w.heap.size w w100) := ⟨by rw [← hq_]; exact (hb_ HB)⟩; clear BK393 HB hq_; have BK393 := n0_; have HB := n1_; clear n0_ n1_))
    replace BK393 := am_ (blk_drew BK393.out)
    replace HB := am_ (below_drew1 HB.out)
    have p400 : 0 ≤ (0 : Int) := (by omega)
    have q400 : 0 < ((rd_L3 l1 a2).length : Int) := od_
    obtain ⟨ad400, e400, hx400_0⟩ := Kd.at_int HR392_0.out 0 p400 q400
    have hw400_0 := hx400_0
    (try rw [show ((0 : Int)).toNat = 0 from rfl] at hw400_0)
    (try rw [show 0 * 1 = 0 from rfl] at hw400_0)
    (try rw [Addr.add_zero'] at hw400_0)
    cases e400
    have qi400 : (0 < (rd_L3 l1 a2).length) = True := eq_true (by omega)
    (try rw [show ((0 : Int)).toNat = 0 from rfl] at hx400_0)
    (try rw [Addr.add_zero'] at hx400_0)
    replace hx400_0 := hc_ HB hx400_0
    replace p400 := eq_true p400
    replace q400 := eq_true q400
    have p406 : 0 ≤ (1 : Int) := (by omega)
    have q406 : 1 < ((rd_L3 l1 a2).length : Int) := od_
    obtain ⟨ad406, e406, hx406_0⟩ := Kd.at_int HR392_0.out 1 p406 q406
    have hw406_0 := hx406_0
    (try rw [show ((1 : Int)).toNat = 1 from rfl] at hw406_0)
    (try rw [show 1 * 1 = 1 from rfl] at hw406_0)
    (try simp only [Nat.reduceMul, Nat.reduceEqDiff, Go.Addr.add, ↓reduceIte] at hw406_0)
    obtain rfl : ad400 = ad406 := (by injection e406)
    (try simp only [show (1 : Int).toNat = 1 from rfl, Nat.reduceMul, Nat.reduceEqDiff, Go.Addr.add, ↓reduceIte] at hx406_0)
    have qi406 : (1 < (rd_L3 l1 a2).length) = True := eq_true (by omega)
    (try rw [show ((1 : Int)).toNat = 1 from rfl] at hx406_0)
    replace hx406_0 := hc_ HB hx406_0
    replace p406 := eq_true p406
    replace q406 := eq_true q406
    have p408 : 0 ≤ (2 : Int) := (by omega)
    have q408 : 2 < ((rd_L3 l1 a2).length : Int) := od_
    obtain ⟨ad408, e408, hx408_0⟩ := Kd.at_int HR392_0.out 2 p408 q408
    have hw408_0 := hx408_0
    (try rw [show ((2 : Int)).toNat = 2 from rfl] at hw408_0)
    (try rw [show 2 * 1 = 2 from rfl] at hw408_0)
    (try simp only [Nat.reduceMul, Nat.reduceEqDiff, Go.Addr.add, ↓reduceIte] at hw408_0)
    obtain rfl : ad400 = ad408 := (by injection e408)
    (try simp only [show (2 : Int).toNat = 2 from rfl, Nat.reduceMul, Nat.reduceEqDiff, Go.Addr.add, ↓reduceIte] at hx408_0)
    have qi408 : (2 < (rd_L3 l1 a2).length) = True := eq_true (by omega)
    (try rw [show ((2 : Int)).toNat = 2 from rfl] at hx408_0)
    replace hx408_0 := hc_ HB hx408_0
    replace p408 := eq_true p408
    replace q408 := eq_true q408
    have p410 : 0 ≤ (3 : Int) := (by omega)
    have q410 : 3 < ((rd_L3 l1 a2).length : Int) := od_
    obtain ⟨ad410, e410, hx410_0⟩ := Kd.at_int HR392_0.out 3 p410 q410
    have hw410_0 := hx410_0
    (try rw [show ((3 : Int)).toNat = 3 from rfl] at hw410_0)
    (try rw [show 3 * 1 = 3 from rfl] at hw410_0)
    (try simp only [Nat.reduceMul, Nat.reduceEqDiff, Go.Addr.add, ↓reduceIte] at hw410_0)
    obtain rfl : ad400 = ad410 := (by injection e410)
    (try simp only [show (3 : Int).toNat = 3 from rfl, Nat.reduceMul, Nat.reduceEqDiff, Go.Addr.add, ↓reduceIte] at hx410_0)
    have qi410 : (3 < (rd_L3 l1 a2).length) = True := eq_true (by omega)
    (try rw [show ((3 : Int)).toNat = 3 from rfl] at hx410_0)
    replace hx410_0 := hc_ HB hx410_0
    replace p410 := eq_true p410
    replace q410 := eq_true q410
    refine start_ (n := 40) (S := fun w' => True) (ds := []) (bb 40 0) (by kernel_rfl) rfl rfl trivial (fun hHeld => ?_); refine with_tabW spec_ruShow.tab11 spec_ruShow.bits11 (fun HT_ HW_ => ?_)
    generalize w100.drew = w101 at BK393 HB hx400_0 hx406_0 hx408_0 hx410_0 hHeld ⊢
    refine pm_ HT_ 0 65 40 1 ?_
    refine pm_ HT_ 1 66 40 3 ?_
    refine pm_ HT_ 2 67 40 7 ?_
    refine pm_ HT_ 9 74 40 519 ?_
    refine pm_ HT_ 16 81 40 66055 ?_
    refine pm_ HT_ 17 82 40 197127 ?_
    refine pm_ HT_ 18 83 40 459271 ?_
    refine pm_ HT_ 24 89 40 17236487 ?_
    refine pm_ HT_ 25 90 40 50790919 ?_
    refine pm_ HT_ 26 91 40 117899783 ?_
    refine pm_ HT_ 32 97 40 4412867079 ?_
    refine pm_ HT_ 33 98 40 13002801671 ?_
    refine pm_ HT_ 34 99 40 30182670855 ?_
    refine inv_at [3, 4, 5, 6, 7, 8, 10, 11, 12, 13, 14, 15, 19, 20, 21, 22, 23, 27, 28, 29, 30, 31, 35, 36, 37, 38, 39] (fun a0_ b a w' => ∃ (v403 : Value) (az403 : Addr) (m12_ : Value), a = putSel a0_ b [(3, 68, .pointer (some ad400)), (4, 69, .int .i64 (rd (rd_L3 l1 a2) 0)), (5, 70, .string t401), (6, 71, .string ((⟨#[105, 102, 32]⟩ : ByteArray) ++ t401)), (7, 72, .string (((⟨#[105, 102, 32]⟩ : ByteArray) ++ t401) ++ (⟨#[32]⟩ : ByteArray))), (8, 73, v403), (10, 75, .int .i64 ((rd_T73 l0 a2).f0)), (11, 76, .int .i64 ji60), (12, 77, m12_), (13, 78, .string (rdOf ByteArray.empty y402 (ji60))), (14, 79, .string ((((⟨#[105, 102, 32]⟩ : ByteArray) ++ t401) ++ (⟨#[32]⟩ : ByteArray)) ++ (rdOf ByteArray.empty y402 (ji60)))), (15, 80, .string (((((⟨#[105, 102, 32]⟩ : ByteArray) ++ t401) ++ (⟨#[32]⟩ : ByteArray)) ++ (rdOf ByteArray.empty y402 (ji60))) ++ (⟨#[32]⟩ : ByteArray))), (19, 84, .pointer (some (ad400.add 1))), (20, 85, .int .i64 (rd (rd_L3 l1 a2) 1)), (21, 86, .string t407), (22, 87, .string ((((((⟨#[105, 102, 32]⟩ : ByteArray) ++ t401) ++ (⟨#[32]⟩ : ByteArray)) ++ (rdOf ByteArray.empty y402 (ji60))) ++ (⟨#[32]⟩ : ByteArray)) ++ t407)), (23, 88, .string (((((((⟨#[105, 102, 32]⟩ : ByteArray) ++ t401) ++ (⟨#[32]⟩ : ByteArray)) ++ (rdOf ByteArray.empty y402 (ji60))) ++ (⟨#[32]⟩ : ByteArray)) ++ t407) ++ (⟨#[32, 116, 104, 101, 110, 32]⟩ : ByteArray))), (27, 92, .pointer (some (ad400.add 2))), (28, 93, .int .i64 (rd (rd_L3 l1 a2) 2)), (29, 94, .string t409), (30, 95, .string ((((((((⟨#[105, 102, 32]⟩ : ByteArray) ++ t401) ++ (⟨#[32]⟩ : ByteArray)) ++ (rdOf ByteArray.empty y402 (ji60))) ++ (⟨#[32]⟩ : ByteArray)) ++ t407) ++ (⟨#[32, 116, 104, 101, 110, 32]⟩ : ByteArray)) ++ t409)), (31, 96, .string (((((((((⟨#[105, 102, 32]⟩ : ByteArray) ++ t401) ++ (⟨#[32]⟩ : ByteArray)) ++ (rdOf ByteArray.empty y402 (ji60))) ++ (⟨#[32]⟩ : ByteArray)) ++ t407) ++ (⟨#[32, 116, 104, 101, 110, 32]⟩ : ByteArray)) ++ t409) ++ (⟨#[32, 101, 108, 115, 101, 32]⟩ : ByteArray))), (35, 100, .pointer (some (ad400.add 3))), (36, 101, .int .i64 (rd (rd_L3 l1 a2) 3)), (37, 102, .string t411), (38, 103, .string ((((((((((⟨#[105, 102, 32]⟩ : ByteArray) ++ t401) ++ (⟨#[32]⟩ : ByteArray)) ++ (rdOf ByteArray.empty y402 (ji60))) ++ (⟨#[32]⟩ : ByteArray)) ++ t407) ++ (⟨#[32, 116, 104, 101, 110, 32]⟩ : ByteArray)) ++ t409) ++ (⟨#[32, 101, 108, 115, 101, 32]⟩ : ByteArray)) ++ t411)), (39, 12, .string ((((((((((⟨#[105, 102, 32]⟩ : ByteArray) ++ t401) ++ (⟨#[32]⟩ : ByteArray)) ++ (rdOf ByteArray.empty y402 (ji60))) ++ (⟨#[32]⟩ : ByteArray)) ++ t407) ++ (⟨#[32, 116, 104, 101, 110, 32]⟩ : ByteArray)) ++ t409) ++ (⟨#[32, 101, 108, 115, 101, 32]⟩ : ByteArray)) ++ t411))] ∧ (w'.heap[gb393]? = some (.cells #[.int .i64 ((rd_T73 l0 a2).f0), .int .i64 ((rd_T73 l0 a2).f1)] 73 (0, 0))) ∧ (Below w.heap.size w w') ∧ (b 8 = true → Kd.R Kd.string 9 w' w.heap.size (fun _ => True) v403 y402) ∧ (b 8 = true → ∃ c_, (v403 : Value) = .slice (some az403) y402.length c_) ∧ (b 12 = true → (m12_ : Value) = .pointer (some (az403.add ((ji60)).toNat)))) HT_.out HW_.out (by kernel_rfl) (by kernel_rfl) ?_ ?_ ?_
    ·exact ⟨.bool false, ⟨0, 0, none⟩, .bool false, by simp only [putSel, Bool.false_eq_true, if_false], BK393.out, HB.out, fun h_ => absurd h_ (by decide), fun h_ => absurd h_ (by decide), fun h_ => absurd h_ (by decide)⟩
    ·refine ?z10_
     let rec p10_ : type_of% ?z10_ := by(
     skip
     clear BK393 HB
     refine steps_cons ?_ ?_
     ·rintro b a w' ⟨v403, az403, m12_, ha, q2_, q6_, q4_, q0_, q5_⟩ hbq_ hon hoff
      refine ⟨_, rfl, fun K hK => ?_⟩
      have e67 : a.tmps[67]? = some (.slice (some ad400) (rd_L3 l1 a2).length c392_0) := pq_ ha rfl rfl
      replace ha := am_ ha
      have HB := am_ q6_
      have hs0_ := hcl_ HB hw400_0
      refine value_ (w1 := w') (v := .pointer (some ad400)) (by rfl) rfl ?_ ?_
      ·go_simp
       (try simp only [i64_w])
       try rfl
      refine hK.out _ _ ⟨v403, az403, m12_, (pu_ ha 0 hbq_ rfl rfl rfl), q2_, q6_, q4_, q0_, q5_⟩
     refine steps_cons ?_ ?_
     ·rintro b a w' ⟨v403, az403, m12_, ha, q2_, q6_, q4_, q0_, q5_⟩ hbq_ hon hoff
      refine ⟨_, rfl, fun K hK => ?_⟩
      have e68 := po_ ha 0 3 68 (.pointer (some ad400)) rfl rfl (hon 3 (by kernel_rfl)) rfl
      replace ha := am_ ha
      have HB := am_ q6_
      have hs0_ := hcl_ HB hw400_0
      refine value_ (w1 := w') (v := .int .i64 (rd (rd_L3 l1 a2) 0)) (by rfl) rfl ?_ ?_
      ·go_simp
       (try simp only [i64_w])
       try rfl
      refine hK.out _ _ ⟨v403, az403, m12_, (pu_ ha 1 hbq_ rfl rfl rfl), q2_, q6_, q4_, q0_, q5_⟩
     refine steps_cons ?_ ?_
     ·rintro b a w' ⟨v403, az403, m12_, ha, q2_, q6_, q4_, q0_, q5_⟩ hbq_ hon hoff
      refine ⟨_, rfl, fun K hK => ?_⟩
      have e65 : a.tmps[65]? = some (.slice (some ad391) l0.length c0) := pq_ ha rfl rfl
      have e66 : a.tmps[66]? = some (.slice (some ad392) l1.length c1) := pq_ ha rfl rfl
      have e69 := po_ ha 1 4 69 (.int .i64 (rd (rd_L3 l1 a2) 0)) rfl rfl (hon 4 (by kernel_rfl)) rfl
      replace ha := am_ ha
      have BK393 := am_ q2_
      have HB := am_ q6_
      refine goes_ Tryz.func47 (by kernel_rfl) rfl #[.slice (some ad391) l0.length c0, .slice (some ad392) l1.length c1, .int .i64 (rd (rd_L3 l1 a2) 0), .int .i64 1] (by rfl) rfl rfl (by simp only [List.map_toArray, List.map_cons, List.map_nil, Act.eval, Array.getD_eq_getD_getElem?, Option.getD_some, e65, e66, e69] <;> rfl) ?_
      with_reducible refine (ih k (by omega) _ _ l0 _ _ l1 (rd (rd_L3 l1 a2) 0) 1 t401 _ ?side1 ?side2 ?side3 ?side4 A57.out).mono ?_
      (case side1 => exact Kd.C_w HR0 HB)
      (case side2 => exact HC0.out)
      (case side3 => exact Kd.C_w HR1 HB)
      (case side4 => exact HC1.out)
      rintro e w102 ⟨rfl, hb⟩
      refine ⟨_, rfl, ?_⟩
      have n0_ := am_ (blk_below (kp_ BK393) hb)
      have n1_ := am_ (below_step (hb_ HB) hb)
      have z_HO404 := fun (h0_ : b 8 = true) => (show Kd.R Kd.string 9 w102 w.heap.size (fun _ => True) v403 y402 from by first | exact (Kd.R_below (Kd.R_pp ((q4_ h0_))) hb) | exact Kd.R_mono (Kd.R_below (Kd.R_pp ((q4_ h0_))) hb) (fun _ h_ => by first | trivial | exact h_ | exact h_.1))
      clear BK393
      clear HB
      have BK393 := n0_
      have HB := n1_
      clear n0_ n1_
      refine hK.out _ _ ⟨v403, az403, m12_, (pu_ ha 2 hbq_ rfl rfl rfl), (kp_ BK393), (hb_ HB), z_HO404, q0_, q5_⟩
     refine steps_cons ?_ ?_
     ·rintro b a w' ⟨v403, az403, m12_, ha, q2_, q6_, q4_, q0_, q5_⟩ hbq_ hon hoff
      refine ⟨_, rfl, fun K hK => ?_⟩
      have e70 := po_ ha 2 5 70 (.string t401) rfl rfl (hon 5 (by kernel_rfl)) rfl
      replace ha := am_ ha
      refine value_ (w1 := w') (v := .string ((⟨#[105, 102, 32]⟩ : ByteArray) ++ t401)) (by rfl) rfl ?_ ?_
      ·go_simp
       (try simp only [i64_w])
       try rfl
      refine hK.out _ _ ⟨v403, az403, m12_, (pu_ ha 3 hbq_ rfl rfl rfl), q2_, q6_, q4_, q0_, q5_⟩
     refine steps_cons ?_ ?_
     ·rintro b a w' ⟨v403, az403, m12_, ha, q2_, q6_, q4_, q0_, q5_⟩ hbq_ hon hoff
      refine ⟨_, rfl, fun K hK => ?_⟩
      have e71 := po_ ha 3 6 71 (.string ((⟨#[105, 102, 32]⟩ : ByteArray) ++ t401)) rfl rfl (hon 6 (by kernel_rfl)) rfl
      replace ha := am_ ha
      refine value_ (w1 := w') (v := .string (((⟨#[105, 102, 32]⟩ : ByteArray) ++ t401) ++ (⟨#[32]⟩ : ByteArray))) (by rfl) rfl ?_ ?_
      ·go_simp
       (try simp only [i64_w])
       try rfl
      refine hK.out _ _ ⟨v403, az403, m12_, (pu_ ha 4 hbq_ rfl rfl rfl), q2_, q6_, q4_, q0_, q5_⟩
     refine steps_cons ?_ ?_
     ·rintro b a w' ⟨v403, az403, m12_, ha, q2_, q6_, q4_, q0_, q5_⟩ hbq_ hon hoff
      refine ⟨_, rfl, fun K hK => ?_⟩
      replace ha := am_ ha
      have BK393 := am_ q2_
      have HB := am_ q6_
      refine Kd.R_lit_step Kd.string _ 9 ?hg (N := 73) ?hd (xs := ([⟨#[60]⟩, ⟨#[61]⟩, ⟨#[62]⟩] : List ByteArray)) (inner := [.string ⟨#[60]⟩, .string ⟨#[61]⟩, .string ⟨#[62]⟩]) (ok := fun _ => True) (okp := fun _ => True) ?hr ?hp (fun _ hk => hk) trivial (Below.refl _ _) (Nat.le_refl _) (by simp) ?_; (case hd => rfl); (case hg => rfl); (case hr => first | (go_simp; done) | (go_simp; rfl)); (case hp => exact (Reps.one (show Kd.M Kd.string _ _ _ (⟨#[60]⟩ : ByteArray) [.string ⟨#[60]⟩] from rfl) (Reps.one (show Kd.M Kd.string _ _ _ (⟨#[61]⟩ : ByteArray) [.string ⟨#[61]⟩] from rfl) (Reps.one (show Kd.M Kd.string _ _ _ (⟨#[62]⟩ : ByteArray) [.string ⟨#[62]⟩] from rfl) (Reps.none _ _)))))
      intro v403 w102 ho103 hb hg_ hnew_
      clear hg_ hnew_
      (first | rw [← Ny402.out] at ho103 | (simp only [Int.reduceToNat] at ho103; rw [← Ny402.out] at ho103))
      have HO404 := am_ (Kd.R_lower ho103 (below_size (hb_ HB)))
      replace BK393 := am_ (blk_below (kp_ BK393) hb)
      replace HB := am_ (below_step (hb_ HB) hb)
      clear hb ho103
      obtain ⟨Ao104, co104, eo104⟩ := Kd.R_slice HO404.out
      subst eo104
      obtain ⟨ado104, fo104, _⟩ := Kd.at_string (Kd.R_reads' HO404.out).2.2 0 (by decide) (by rw [Ny402.out]; simp)
      cases fo104
      refine hK.out _ _ ⟨.slice (some ado104) y402.length co104, ado104, m12_, (pu_ ha 5 hbq_ rfl rfl rfl), (kp_ BK393), (hb_ HB), fun _ => (Kd.R_p HO404), fun _ => ⟨_, rfl⟩, fun h0_ => absurd ((hoff 12 (by kernel_rfl)).symm.trans h0_) (by decide)⟩
     refine steps_cons ?_ ?_
     ·rintro b a w' ⟨v403, az403, m12_, ha, q2_, q6_, q4_, q0_, q5_⟩ hbq_ hon hoff
      refine ⟨_, rfl, fun K hK => ?_⟩
      have e74 : a.tmps[74]? = some (.pointer (some ⟨gb393, 0, none⟩)) := pq_ ha rfl rfl
      replace ha := am_ ha
      have BK393 := am_ q2_
      have hc0_ : w'.cell? ⟨gb393, 0, none⟩ = some (.int .i64 ((rd_T73 l0 a2).f0)) := (blk_cell BK393.out 0).trans rfl
      have hc1_ : w'.cell? ⟨gb393, 1, none⟩ = some (.int .i64 ((rd_T73 l0 a2).f1)) := (blk_cell BK393.out 1).trans rfl
      refine value_ (w1 := w') (v := .int .i64 ((rd_T73 l0 a2).f0)) (by rfl) rfl ?_ ?_
      ·go_simp
       (try simp only [i64_w])
       try rfl
      refine hK.out _ _ ⟨v403, az403, m12_, (pu_ ha 6 hbq_ rfl rfl rfl), q2_, q6_, q4_, q0_, fun h0_ => absurd ((hoff 12 (by kernel_rfl)).symm.trans h0_) (by decide)⟩
     refine steps_cons ?_ ?_
     ·rintro b a w' ⟨v403, az403, m12_, ha, q2_, q6_, q4_, q0_, q5_⟩ hbq_ hon hoff
      refine ⟨_, rfl, fun K hK => ?_⟩
      have e75 := po_ ha 6 10 75 (.int .i64 ((rd_T73 l0 a2).f0)) rfl rfl (hon 10 (by kernel_rfl)) rfl
      replace ha := am_ ha
      refine value_ (w1 := w') (v := .int .i64 ji60) (by rfl) rfl ?_ ?_
      ·go_simp
       (try simp only [i64_w])
       try rfl
      refine hK.out _ _ ⟨v403, az403, m12_, (pu_ ha 7 hbq_ rfl rfl rfl), q2_, q6_, q4_, q0_, fun h0_ => absurd ((hoff 12 (by kernel_rfl)).symm.trans h0_) (by decide)⟩
     refine steps_cons ?_ ?_
     ·rintro b a w' ⟨v403, az403, m12_, ha, q2_, q6_, q4_, q0_, q5_⟩ hbq_ hon hoff
      refine ⟨_, rfl, fun K hK => ?_⟩
      have e73 := po_ ha 5 8 73 (v403) rfl rfl (hon 8 (by kernel_rfl)) rfl
      have e76 := po_ ha 7 11 76 (.int .i64 ji60) rfl rfl (hon 11 (by kernel_rfl)) rfl
      replace ha := am_ ha
      have HO404 := am_ (q4_ (hon 8 (by kernel_rfl)))
      have HA_HO404 := am_ (q0_ (hon 8 (by kernel_rfl)))
      obtain ⟨c_, hv_⟩ := HA_HO404.out
      rw [hv_] at e73
      refine value_ (w1 := w') (v := .pointer (some (az403.add ((ji60)).toNat))) (by rfl) rfl ?_ ?_
      ·go_simp
       (try simp only [i64_w])
       try rfl
      refine hK.out _ _ ⟨v403, az403, (.pointer (some (az403.add ((ji60)).toNat))), (pu_ ha 8 hbq_ rfl rfl rfl), q2_, q6_, q4_, q0_, fun _ => rfl⟩
     refine steps_cons ?_ ?_
     ·rintro b a w' ⟨v403, az403, m12_, ha, q2_, q6_, q4_, q0_, q5_⟩ hbq_ hon hoff
      refine ⟨_, rfl, fun K hK => ?_⟩
      have e77 := po_ ha 8 12 77 (m12_) rfl rfl (hon 12 (by kernel_rfl)) rfl
      rw [q5_ (hon 12 (by kernel_rfl))] at e77
      replace ha := am_ ha
      have HO404 := am_ (q4_ (hon 8 (by kernel_rfl)))
      have HA_HO404 := am_ (q0_ (hon 8 (by kernel_rfl)))
      obtain ⟨c_, hv_⟩ := HA_HO404.out
      have hF_ := HO404.out
      rw [hv_] at hF_
      obtain ⟨ad_, ea_, hx_⟩ := Kd.at_string (Kd.R_reads' hF_).2.2 (ji60) (of_eq_true pi405) (of_eq_true qi405)
      cases ea_
      refine value_ (w1 := w') (v := .string (rdOf ByteArray.empty y402 (ji60))) (by rfl) rfl ?_ ?_
      ·go_simp
       (try simp only [i64_w])
       try rfl
      refine hK.out _ _ ⟨v403, az403, m12_, (pu_ ha 9 hbq_ rfl rfl rfl), q2_, q6_, q4_, q0_, q5_⟩
     refine steps_cons ?_ ?_
     ·rintro b a w' ⟨v403, az403, m12_, ha, q2_, q6_, q4_, q0_, q5_⟩ hbq_ hon hoff
      refine ⟨_, rfl, fun K hK => ?_⟩
      have e72 := po_ ha 4 7 72 (.string (((⟨#[105, 102, 32]⟩ : ByteArray) ++ t401) ++ (⟨#[32]⟩ : ByteArray))) rfl rfl (hon 7 (by kernel_rfl)) rfl
      have e78 := po_ ha 9 13 78 (.string (rdOf ByteArray.empty y402 (ji60))) rfl rfl (hon 13 (by kernel_rfl)) rfl
      replace ha := am_ ha
      have HO404 := am_ (q4_ (hon 8 (by kernel_rfl)))
      have HA_HO404 := am_ (q0_ (hon 8 (by kernel_rfl)))
      refine value_ (w1 := w') (v := .string ((((⟨#[105, 102, 32]⟩ : ByteArray) ++ t401) ++ (⟨#[32]⟩ : ByteArray)) ++ (rdOf ByteArray.empty y402 (ji60)))) (by rfl) rfl ?_ ?_
      ·go_simp
       (try simp only [i64_w])
       try rfl
      refine hK.out _ _ ⟨v403, az403, m12_, (pu_ ha 10 hbq_ rfl rfl rfl), q2_, q6_, q4_, q0_, q5_⟩
     refine steps_cons ?_ ?_
     ·rintro b a w' ⟨v403, az403, m12_, ha, q2_, q6_, q4_, q0_, q5_⟩ hbq_ hon hoff
      refine ⟨_, rfl, fun K hK => ?_⟩
      have e79 := po_ ha 10 14 79 (.string ((((⟨#[105, 102, 32]⟩ : ByteArray) ++ t401) ++ (⟨#[32]⟩ : ByteArray)) ++ (rdOf ByteArray.empty y402 (ji60)))) rfl rfl (hon 14 (by kernel_rfl)) rfl
      replace ha := am_ ha
      have HO404 := am_ (q4_ (hon 8 (by kernel_rfl)))
      have HA_HO404 := am_ (q0_ (hon 8 (by kernel_rfl)))
      refine value_ (w1 := w') (v := .string (((((⟨#[105, 102, 32]⟩ : ByteArray) ++ t401) ++ (⟨#[32]⟩ : ByteArray)) ++ (rdOf ByteArray.empty y402 (ji60))) ++ (⟨#[32]⟩ : ByteArray))) (by rfl) rfl ?_ ?_
      ·go_simp
       (try simp only [i64_w])
       try rfl
      refine hK.out _ _ ⟨v403, az403, m12_, (pu_ ha 11 hbq_ rfl rfl rfl), q2_, q6_, q4_, q0_, q5_⟩
     refine steps_cons ?_ ?_
     ·rintro b a w' ⟨v403, az403, m12_, ha, q2_, q6_, q4_, q0_, q5_⟩ hbq_ hon hoff
      refine ⟨_, rfl, fun K hK => ?_⟩
      have e83 : a.tmps[83]? = some (.slice (some ad400) (rd_L3 l1 a2).length c392_0) := pq_ ha rfl rfl
      replace ha := am_ ha
      have HB := am_ q6_
      have hs1_ := hcl_ HB hw406_0
      refine value_ (w1 := w') (v := .pointer (some (ad400.add 1))) (by rfl) rfl ?_ ?_
      ·go_simp
       (try simp only [i64_w])
       try rfl
      refine hK.out _ _ ⟨v403, az403, m12_, (pu_ ha 12 hbq_ rfl rfl rfl), q2_, q6_, q4_, q0_, q5_⟩
     refine steps_cons ?_ ?_
     ·rintro b a w' ⟨v403, az403, m12_, ha, q2_, q6_, q4_, q0_, q5_⟩ hbq_ hon hoff
      refine ⟨_, rfl, fun K hK => ?_⟩
      have e84 := po_ ha 12 19 84 (.pointer (some (ad400.add 1))) rfl rfl (hon 19 (by kernel_rfl)) rfl
      replace ha := am_ ha
      have HB := am_ q6_
      have hs1_ := hcl_ HB hw406_0
      refine value_ (w1 := w') (v := .int .i64 (rd (rd_L3 l1 a2) 1)) (by rfl) rfl ?_ ?_
      ·go_simp
       (try simp only [i64_w])
       try rfl
      refine hK.out _ _ ⟨v403, az403, m12_, (pu_ ha 13 hbq_ rfl rfl rfl), q2_, q6_, q4_, q0_, q5_⟩
     refine steps_cons ?_ ?_
     ·rintro b a w' ⟨v403, az403, m12_, ha, q2_, q6_, q4_, q0_, q5_⟩ hbq_ hon hoff
      refine ⟨_, rfl, fun K hK => ?_⟩
      have e81 : a.tmps[81]? = some (.slice (some ad391) l0.length c0) := pq_ ha rfl rfl
      have e82 : a.tmps[82]? = some (.slice (some ad392) l1.length c1) := pq_ ha rfl rfl
      have e85 := po_ ha 13 20 85 (.int .i64 (rd (rd_L3 l1 a2) 1)) rfl rfl (hon 20 (by kernel_rfl)) rfl
      replace ha := am_ ha
      have BK393 := am_ q2_
      have HB := am_ q6_
      refine goes_ Tryz.func47 (by kernel_rfl) rfl #[.slice (some ad391) l0.length c0, .slice (some ad392) l1.length c1, .int .i64 (rd (rd_L3 l1 a2) 1), .int .i64 1] (by rfl) rfl rfl (by simp only [List.map_toArray, List.map_cons, List.map_nil, Act.eval, Array.getD_eq_getD_getElem?, Option.getD_some, e81, e82, e85] <;> rfl) ?_
      with_reducible refine (ih k (by omega) _ _ l0 _ _ l1 (rd (rd_L3 l1 a2) 1) 1 t407 _ ?side1 ?side2 ?side3 ?side4 A66.out).mono ?_
      (case side1 => exact Kd.C_w HR0 HB)
      (case side2 => exact HC0.out)
      (case side3 => exact Kd.C_w HR1 HB)
      (case side4 => exact HC1.out)
      rintro e w104 ⟨rfl, hb⟩
      refine ⟨_, rfl, ?_⟩
      have n0_ := am_ (blk_below (kp_ BK393) hb)
      have n1_ := am_ (below_step (hb_ HB) hb)
      have z_HO404 := fun (h0_ : b 8 = true) => (show Kd.R Kd.string 9 w104 w.heap.size (fun _ => True) v403 y402 from by first | exact (Kd.R_below (Kd.R_pp ((q4_ h0_))) hb) | exact Kd.R_mono (Kd.R_below (Kd.R_pp ((q4_ h0_))) hb) (fun _ h_ => by first | trivial | exact h_ | exact h_.1))
      clear BK393
      clear HB
      have BK393 := n0_
      have HB := n1_
      clear n0_ n1_
      refine hK.out _ _ ⟨v403, az403, m12_, (pu_ ha 14 hbq_ rfl rfl rfl), (kp_ BK393), (hb_ HB), z_HO404, q0_, q5_⟩
     refine steps_cons ?_ ?_
     ·rintro b a w' ⟨v403, az403, m12_, ha, q2_, q6_, q4_, q0_, q5_⟩ hbq_ hon hoff
      refine ⟨_, rfl, fun K hK => ?_⟩
      have e80 := po_ ha 11 15 80 (.string (((((⟨#[105, 102, 32]⟩ : ByteArray) ++ t401) ++ (⟨#[32]⟩ : ByteArray)) ++ (rdOf ByteArray.empty y402 (ji60))) ++ (⟨#[32]⟩ : ByteArray))) rfl rfl (hon 15 (by kernel_rfl)) rfl
      have e86 := po_ ha 14 21 86 (.string t407) rfl rfl (hon 21 (by kernel_rfl)) rfl
      replace ha := am_ ha
      have HO404 := am_ (q4_ (hon 8 (by kernel_rfl)))
      have HA_HO404 := am_ (q0_ (hon 8 (by kernel_rfl)))
      refine value_ (w1 := w') (v := .string ((((((⟨#[105, 102, 32]⟩ : ByteArray) ++ t401) ++ (⟨#[32]⟩ : ByteArray)) ++ (rdOf ByteArray.empty y402 (ji60))) ++ (⟨#[32]⟩ : ByteArray)) ++ t407)) (by rfl) rfl ?_ ?_
      ·go_simp
       (try simp only [i64_w])
       try rfl
      refine hK.out _ _ ⟨v403, az403, m12_, (pu_ ha 15 hbq_ rfl rfl rfl), q2_, q6_, q4_, q0_, q5_⟩
     refine steps_cons ?_ ?_
     ·rintro b a w' ⟨v403, az403, m12_, ha, q2_, q6_, q4_, q0_, q5_⟩ hbq_ hon hoff
      refine ⟨_, rfl, fun K hK => ?_⟩
      have e87 := po_ ha 15 22 87 (.string ((((((⟨#[105, 102, 32]⟩ : ByteArray) ++ t401) ++ (⟨#[32]⟩ : ByteArray)) ++ (rdOf ByteArray.empty y402 (ji60))) ++ (⟨#[32]⟩ : ByteArray)) ++ t407)) rfl rfl (hon 22 (by kernel_rfl)) rfl
      replace ha := am_ ha
      have HO404 := am_ (q4_ (hon 8 (by kernel_rfl)))
      have HA_HO404 := am_ (q0_ (hon 8 (by kernel_rfl)))
      refine value_ (w1 := w') (v := .string (((((((⟨#[105, 102, 32]⟩ : ByteArray) ++ t401) ++ (⟨#[32]⟩ : ByteArray)) ++ (rdOf ByteArray.empty y402 (ji60))) ++ (⟨#[32]⟩ : ByteArray)) ++ t407) ++ (⟨#[32, 116, 104, 101, 110, 32]⟩ : ByteArray))) (by rfl) rfl ?_ ?_
      ·go_simp
       (try simp only [i64_w])
       try rfl
      refine hK.out _ _ ⟨v403, az403, m12_, (pu_ ha 16 hbq_ rfl rfl rfl), q2_, q6_, q4_, q0_, q5_⟩
     refine steps_cons ?_ ?_
     ·rintro b a w' ⟨v403, az403, m12_, ha, q2_, q6_, q4_, q0_, q5_⟩ hbq_ hon hoff
      refine ⟨_, rfl, fun K hK => ?_⟩
      have e91 : a.tmps[91]? = some (.slice (some ad400) (rd_L3 l1 a2).length c392_0) := pq_ ha rfl rfl
      replace ha := am_ ha
      have HB := am_ q6_
      have hs2_ := hcl_ HB hw408_0
      refine value_ (w1 := w') (v := .pointer (some (ad400.add 2))) (by rfl) rfl ?_ ?_
      ·go_simp
       (try simp only [i64_w])
       try rfl
      refine hK.out _ _ ⟨v403, az403, m12_, (pu_ ha 17 hbq_ rfl rfl rfl), q2_, q6_, q4_, q0_, q5_⟩
     refine steps_cons ?_ ?_
     ·rintro b a w' ⟨v403, az403, m12_, ha, q2_, q6_, q4_, q0_, q5_⟩ hbq_ hon hoff
      refine ⟨_, rfl, fun K hK => ?_⟩
      have e92 := po_ ha 17 27 92 (.pointer (some (ad400.add 2))) rfl rfl (hon 27 (by kernel_rfl)) rfl
      replace ha := am_ ha
      have HB := am_ q6_
      have hs2_ := hcl_ HB hw408_0
      refine value_ (w1 := w') (v := .int .i64 (rd (rd_L3 l1 a2) 2)) (by rfl) rfl ?_ ?_
      ·go_simp
       (try simp only [i64_w])
       try rfl
      refine hK.out _ _ ⟨v403, az403, m12_, (pu_ ha 18 hbq_ rfl rfl rfl), q2_, q6_, q4_, q0_, q5_⟩
     refine steps_cons ?_ ?_
     ·rintro b a w' ⟨v403, az403, m12_, ha, q2_, q6_, q4_, q0_, q5_⟩ hbq_ hon hoff
      refine ⟨_, rfl, fun K hK => ?_⟩
      have e89 : a.tmps[89]? = some (.slice (some ad391) l0.length c0) := pq_ ha rfl rfl
      have e90 : a.tmps[90]? = some (.slice (some ad392) l1.length c1) := pq_ ha rfl rfl
      have e93 := po_ ha 18 28 93 (.int .i64 (rd (rd_L3 l1 a2) 2)) rfl rfl (hon 28 (by kernel_rfl)) rfl
      replace ha := am_ ha
      have BK393 := am_ q2_
      have HB := am_ q6_
      refine goes_ Tryz.func47 (by kernel_rfl) rfl #[.slice (some ad391) l0.length c0, .slice (some ad392) l1.length c1, .int .i64 (rd (rd_L3 l1 a2) 2), .int .i64 0] (by rfl) rfl rfl (by simp only [List.map_toArray, List.map_cons, List.map_nil, Act.eval, Array.getD_eq_getD_getElem?, Option.getD_some, e89, e90, e93] <;> rfl) ?_
      with_reducible refine (ih k (by omega) _ _ l0 _ _ l1 (rd (rd_L3 l1 a2) 2) 0 t409 _ ?side1 ?side2 ?side3 ?side4 A70.out).mono ?_
      (case side1 => exact Kd.C_w HR0 HB)
      (case side2 => exact HC0.out)
      (case side3 => exact Kd.C_w HR1 HB)
      (case side4 => exact HC1.out)
      rintro e w105 ⟨rfl, hb⟩
      refine ⟨_, rfl, ?_⟩
      have n0_ := am_ (blk_below (kp_ BK393) hb)
      have n1_ := am_ (below_step (hb_ HB) hb)
      have z_HO404 := fun (h0_ : b 8 = true) => (show Kd.R Kd.string 9 w105 w.heap.size (fun _ => True) v403 y402 from by first | exact (Kd.R_below (Kd.R_pp ((q4_ h0_))) hb) | exact Kd.R_mono (Kd.R_below (Kd.R_pp ((q4_ h0_))) hb) (fun _ h_ => by first | trivial | exact h_ | exact h_.1))
      clear BK393
      clear HB
      have BK393 := n0_
      have HB := n1_
      clear n0_ n1_
      refine hK.out _ _ ⟨v403, az403, m12_, (pu_ ha 19 hbq_ rfl rfl rfl), (kp_ BK393), (hb_ HB), z_HO404, q0_, q5_⟩
     refine steps_cons ?_ ?_
     ·rintro b a w' ⟨v403, az403, m12_, ha, q2_, q6_, q4_, q0_, q5_⟩ hbq_ hon hoff
      refine ⟨_, rfl, fun K hK => ?_⟩
      have e88 := po_ ha 16 23 88 (.string (((((((⟨#[105, 102, 32]⟩ : ByteArray) ++ t401) ++ (⟨#[32]⟩ : ByteArray)) ++ (rdOf ByteArray.empty y402 (ji60))) ++ (⟨#[32]⟩ : ByteArray)) ++ t407) ++ (⟨#[32, 116, 104, 101, 110, 32]⟩ : ByteArray))) rfl rfl (hon 23 (by kernel_rfl)) rfl
      have e94 := po_ ha 19 29 94 (.string t409) rfl rfl (hon 29 (by kernel_rfl)) rfl
      replace ha := am_ ha
      have HO404 := am_ (q4_ (hon 8 (by kernel_rfl)))
      have HA_HO404 := am_ (q0_ (hon 8 (by kernel_rfl)))
      refine value_ (w1 := w') (v := .string ((((((((⟨#[105, 102, 32]⟩ : ByteArray) ++ t401) ++ (⟨#[32]⟩ : ByteArray)) ++ (rdOf ByteArray.empty y402 (ji60))) ++ (⟨#[32]⟩ : ByteArray)) ++ t407) ++ (⟨#[32, 116, 104, 101, 110, 32]⟩ : ByteArray)) ++ t409)) (by rfl) rfl ?_ ?_
      ·go_simp
       (try simp only [i64_w])
       try rfl
      refine hK.out _ _ ⟨v403, az403, m12_, (pu_ ha 20 hbq_ rfl rfl rfl), q2_, q6_, q4_, q0_, q5_⟩
     refine steps_cons ?_ ?_
     ·rintro b a w' ⟨v403, az403, m12_, ha, q2_, q6_, q4_, q0_, q5_⟩ hbq_ hon hoff
      refine ⟨_, rfl, fun K hK => ?_⟩
      have e95 := po_ ha 20 30 95 (.string ((((((((⟨#[105, 102, 32]⟩ : ByteArray) ++ t401) ++ (⟨#[32]⟩ : ByteArray)) ++ (rdOf ByteArray.empty y402 (ji60))) ++ (⟨#[32]⟩ : ByteArray)) ++ t407) ++ (⟨#[32, 116, 104, 101, 110, 32]⟩ : ByteArray)) ++ t409)) rfl rfl (hon 30 (by kernel_rfl)) rfl
      replace ha := am_ ha
      have HO404 := am_ (q4_ (hon 8 (by kernel_rfl)))
      have HA_HO404 := am_ (q0_ (hon 8 (by kernel_rfl)))
      refine value_ (w1 := w') (v := .string (((((((((⟨#[105, 102, 32]⟩ : ByteArray) ++ t401) ++ (⟨#[32]⟩ : ByteArray)) ++ (rdOf ByteArray.empty y402 (ji60))) ++ (⟨#[32]⟩ : ByteArray)) ++ t407) ++ (⟨#[32, 116, 104, 101, 110, 32]⟩ : ByteArray)) ++ t409) ++ (⟨#[32, 101, 108, 115, 101, 32]⟩ : ByteArray))) (by rfl) rfl ?_ ?_
      ·go_simp
       (try simp only [i64_w])
       try rfl
      refine hK.out _ _ ⟨v403, az403, m12_, (pu_ ha 21 hbq_ rfl rfl rfl), q2_, q6_, q4_, q0_, q5_⟩
     refine steps_cons ?_ ?_
     ·rintro b a w' ⟨v403, az403, m12_, ha, q2_, q6_, q4_, q0_, q5_⟩ hbq_ hon hoff
      refine ⟨_, rfl, fun K hK => ?_⟩
      have e99 : a.tmps[99]? = some (.slice (some ad400) (rd_L3 l1 a2).length c392_0) := pq_ ha rfl rfl
      replace ha := am_ ha
      have HB := am_ q6_
      have hs3_ := hcl_ HB hw410_0
      refine value_ (w1 := w') (v := .pointer (some (ad400.add 3))) (by rfl) rfl ?_ ?_
      ·go_simp
       (try simp only [i64_w])
       try rfl
      refine hK.out _ _ ⟨v403, az403, m12_, (pu_ ha 22 hbq_ rfl rfl rfl), q2_, q6_, q4_, q0_, q5_⟩
     refine steps_cons ?_ ?_
     ·rintro b a w' ⟨v403, az403, m12_, ha, q2_, q6_, q4_, q0_, q5_⟩ hbq_ hon hoff
      refine ⟨_, rfl, fun K hK => ?_⟩
      have e100 := po_ ha 22 35 100 (.pointer (some (ad400.add 3))) rfl rfl (hon 35 (by kernel_rfl)) rfl
      replace ha := am_ ha
      have HB := am_ q6_
      have hs3_ := hcl_ HB hw410_0
      refine value_ (w1 := w') (v := .int .i64 (rd (rd_L3 l1 a2) 3)) (by rfl) rfl ?_ ?_
      ·go_simp
       (try simp only [i64_w])
       try rfl
      refine hK.out _ _ ⟨v403, az403, m12_, (pu_ ha 23 hbq_ rfl rfl rfl), q2_, q6_, q4_, q0_, q5_⟩
     refine steps_cons ?_ ?_
     ·rintro b a w' ⟨v403, az403, m12_, ha, q2_, q6_, q4_, q0_, q5_⟩ hbq_ hon hoff
      refine ⟨_, rfl, fun K hK => ?_⟩
      have e97 : a.tmps[97]? = some (.slice (some ad391) l0.length c0) := pq_ ha rfl rfl
      have e98 : a.tmps[98]? = some (.slice (some ad392) l1.length c1) := pq_ ha rfl rfl
      have e101 := po_ ha 23 36 101 (.int .i64 (rd (rd_L3 l1 a2) 3)) rfl rfl (hon 36 (by kernel_rfl)) rfl
      replace ha := am_ ha
      have BK393 := am_ q2_
      have HB := am_ q6_
      refine goes_ Tryz.func47 (by kernel_rfl) rfl #[.slice (some ad391) l0.length c0, .slice (some ad392) l1.length c1, .int .i64 (rd (rd_L3 l1 a2) 3), .int .i64 0] (by rfl) rfl rfl (by simp only [List.map_toArray, List.map_cons, List.map_nil, Act.eval, Array.getD_eq_getD_getElem?, Option.getD_some, e97, e98, e101] <;> rfl) ?_
      with_reducible refine (ih k (by omega) _ _ l0 _ _ l1 (rd (rd_L3 l1 a2) 3) 0 t411 _ ?side1 ?side2 ?side3 ?side4 A74.out).mono ?_
      (case side1 => exact Kd.C_w HR0 HB)
      (case side2 => exact HC0.out)
      (case side3 => exact Kd.C_w HR1 HB)
      (case side4 => exact HC1.out)
      rintro e w106 ⟨rfl, hb⟩
      refine ⟨_, rfl, ?_⟩
      have n0_ := am_ (blk_below (kp_ BK393) hb)
      have n1_ := am_ (below_step (hb_ HB) hb)
      have z_HO404 := fun (h0_ : b 8 = true) => (show Kd.R Kd.string 9 w106 w.heap.size (fun _ => True) v403 y402 from by first | exact (Kd.R_below (Kd.R_pp ((q4_ h0_))) hb) | exact Kd.R_mono (Kd.R_below (Kd.R_pp ((q4_ h0_))) hb) (fun _ h_ => by first | trivial | exact h_ | exact h_.1))
      clear BK393
      clear HB
      have BK393 := n0_
      have HB := n1_
      clear n0_ n1_
      refine hK.out _ _ ⟨v403, az403, m12_, (pu_ ha 24 hbq_ rfl rfl rfl), (kp_ BK393), (hb_ HB), z_HO404, q0_, q5_⟩
     refine steps_cons ?_ ?_
     ·rintro b a w' ⟨v403, az403, m12_, ha, q2_, q6_, q4_, q0_, q5_⟩ hbq_ hon hoff
      refine ⟨_, rfl, fun K hK => ?_⟩
      have e96 := po_ ha 21 31 96 (.string (((((((((⟨#[105, 102, 32]⟩ : ByteArray) ++ t401) ++ (⟨#[32]⟩ : ByteArray)) ++ (rdOf ByteArray.empty y402 (ji60))) ++ (⟨#[32]⟩ : ByteArray)) ++ t407) ++ (⟨#[32, 116, 104, 101, 110, 32]⟩ : ByteArray)) ++ t409) ++ (⟨#[32, 101, 108, 115, 101, 32]⟩ : ByteArray))) rfl rfl (hon 31 (by kernel_rfl)) rfl
      have e102 := po_ ha 24 37 102 (.string t411) rfl rfl (hon 37 (by kernel_rfl)) rfl
      replace ha := am_ ha
      have HO404 := am_ (q4_ (hon 8 (by kernel_rfl)))
      have HA_HO404 := am_ (q0_ (hon 8 (by kernel_rfl)))
      refine value_ (w1 := w') (v := .string ((((((((((⟨#[105, 102, 32]⟩ : ByteArray) ++ t401) ++ (⟨#[32]⟩ : ByteArray)) ++ (rdOf ByteArray.empty y402 (ji60))) ++ (⟨#[32]⟩ : ByteArray)) ++ t407) ++ (⟨#[32, 116, 104, 101, 110, 32]⟩ : ByteArray)) ++ t409) ++ (⟨#[32, 101, 108, 115, 101, 32]⟩ : ByteArray)) ++ t411)) (by rfl) rfl ?_ ?_
      ·go_simp
       (try simp only [i64_w])
       try rfl
      refine hK.out _ _ ⟨v403, az403, m12_, (pu_ ha 25 hbq_ rfl rfl rfl), q2_, q6_, q4_, q0_, q5_⟩
     refine steps_cons ?_ ?_
     ·rintro b a w' ⟨v403, az403, m12_, ha, q2_, q6_, q4_, q0_, q5_⟩ hbq_ hon hoff
      refine ⟨_, rfl, fun K hK => ?_⟩
      have e103 := po_ ha 25 38 103 (.string ((((((((((⟨#[105, 102, 32]⟩ : ByteArray) ++ t401) ++ (⟨#[32]⟩ : ByteArray)) ++ (rdOf ByteArray.empty y402 (ji60))) ++ (⟨#[32]⟩ : ByteArray)) ++ t407) ++ (⟨#[32, 116, 104, 101, 110, 32]⟩ : ByteArray)) ++ t409) ++ (⟨#[32, 101, 108, 115, 101, 32]⟩ : ByteArray)) ++ t411)) rfl rfl (hon 38 (by kernel_rfl)) rfl
      replace ha := am_ ha
      have HO404 := am_ (q4_ (hon 8 (by kernel_rfl)))
      have HA_HO404 := am_ (q0_ (hon 8 (by kernel_rfl)))
      refine value_ (w1 := w') (v := .string ((((((((((⟨#[105, 102, 32]⟩ : ByteArray) ++ t401) ++ (⟨#[32]⟩ : ByteArray)) ++ (rdOf ByteArray.empty y402 (ji60))) ++ (⟨#[32]⟩ : ByteArray)) ++ t407) ++ (⟨#[32, 116, 104, 101, 110, 32]⟩ : ByteArray)) ++ t409) ++ (⟨#[32, 101, 108, 115, 101, 32]⟩ : ByteArray)) ++ t411)) (by rfl) rfl ?_ ?_
      ·go_simp
       (try simp only [i64_w])
       try rfl
      refine hK.out _ _ ⟨v403, az403, m12_, (pu_ ha 26 hbq_ rfl rfl rfl), q2_, q6_, q4_, q0_, q5_⟩
     exact steps_nil
     )
     exact p10_
    rintro b a w109 hall ⟨v403, az403, m12_, ha, q2_, q6_, q4_, q0_, q5_⟩
    clear BK393 HB
    have hb3_ := hall 3 (by kernel_rfl)
    have hb4_ := hall 4 (by kernel_rfl)
    have hb5_ := hall 5 (by kernel_rfl)
    have hb6_ := hall 6 (by kernel_rfl)
    have hb7_ := hall 7 (by kernel_rfl)
    have hb8_ := hall 8 (by kernel_rfl)
    have hb10_ := hall 10 (by kernel_rfl)
    have hb11_ := hall 11 (by kernel_rfl)
    have hb12_ := hall 12 (by kernel_rfl)
    have hb13_ := hall 13 (by kernel_rfl)
    have hb14_ := hall 14 (by kernel_rfl)
    have hb15_ := hall 15 (by kernel_rfl)
    have hb19_ := hall 19 (by kernel_rfl)
    have hb20_ := hall 20 (by kernel_rfl)
    have hb21_ := hall 21 (by kernel_rfl)
    have hb22_ := hall 22 (by kernel_rfl)
    have hb23_ := hall 23 (by kernel_rfl)
    have hb27_ := hall 27 (by kernel_rfl)
    have hb28_ := hall 28 (by kernel_rfl)
    have hb29_ := hall 29 (by kernel_rfl)
    have hb30_ := hall 30 (by kernel_rfl)
    have hb31_ := hall 31 (by kernel_rfl)
    have hb35_ := hall 35 (by kernel_rfl)
    have hb36_ := hall 36 (by kernel_rfl)
    have hb37_ := hall 37 (by kernel_rfl)
    have hb38_ := hall 38 (by kernel_rfl)
    have hb39_ := hall 39 (by kernel_rfl)
    subst ha
    obtain rfl := q5_ hb12_
    simp only [putSel, hb3_, hb4_, hb5_, hb6_, hb7_, hb8_, hb10_, hb11_, hb12_, hb13_, hb14_, hb15_, hb19_, hb20_, hb21_, hb22_, hb23_, hb27_, hb28_, hb29_, hb30_, hb31_, hb35_, hb36_, hb37_, hb38_, hb39_, if_true, Act.put, List.setIfInBounds_toArray, List.set_cons_zero, List.set_cons_succ]
    have BK393 := am_ q2_
    clear q2_
    have HB := am_ q6_
    clear q6_
    have HO404 := am_ (q4_ hb8_)
    clear q4_
    have HA_HO404 := am_ (q0_ hb8_)
    clear q0_
    clear hall hb3_ hb4_ hb5_ hb6_ hb7_ hb8_ hb10_ hb11_ hb12_ hb13_ hb14_ hb15_ hb19_ hb20_ hb21_ hb22_ hb23_ hb27_ hb28_ hb29_ hb30_ hb31_ hb35_ hb36_ hb37_ hb38_ hb39_
    obtain ⟨co110, eo110⟩ := HA_HO404.out
    clear HA_HO404
    subst eo110
    try go_wp2
    go_ret
    exact ⟨by first | rfl | (simp [errW_none, errW_some] <;> rfl) | (simp only [← hji60]; first | rfl | (simp [errW_none, errW_some] <;> rfl)) | (simp [*, errW_none, errW_some] <;> rfl), hb_ HB⟩
    )
    exact p9_
   ·rw [if_neg c71] at H
    exact absurd H (by simp)
   )
   exact p6_
  ·rw [if_neg c61] at H
   exact absurd H (by simp)
  )
  exact p5_
 rw [if_neg c55] at H
 have c55b0 : (t394 == 0) = false := beq_eq_false_iff_ne.mpr c55
 have c55b1 : (t394 != 0) = true := bne_iff_ne.mpr c55
 revert H; refine pf_ fun c111 H => ?_
 have c111b0 := decide_eq_true c111
 have c111b1 : decide (0 < (rd_L3 l1 a2).length) = true := decide_eq_true (by omega)
 clear c111
 revert H; refine bn_ ?_; rintro t413 A112 H; try dsimp only at H
 by_cases c113 : t413.size + 1 ≤ 9223372036854775807
 case neg => rw [if_neg c113] at H; exact absurd H (by simp)
 refine ?z11_
 let rec p11_ : type_of% ?z11_ := by(
 rw [if_pos c113] at H
 have c113b0 := eq_true c113
 have c113b1 := decide_eq_true c113
 try have c113b2 : (9223372036854775807 < t413.size + 1) = False := eq_false (Nat.not_lt.2 c113)
 obtain ⟨y414, hy414⟩ : ∃ y_ : List ByteArray, y_ = (([⟨#[43]⟩, ⟨#[45]⟩, ⟨#[42]⟩, ⟨#[47]⟩] : List ByteArray)) := ⟨_, rfl⟩
 (try with_reducible replace H := (Option.bind_some _ _).symm.trans H); (try dsimp only at H); (try rw [← hy414] at H)
 have Ny414 := am_ hy414
 clear hy414
 obtain ⟨ji114, hji114⟩ : ∃ j_ : Int, (wrap64 (((rd_T73 l0 a2).f0) - 2)) = j_ := ⟨_, rfl⟩
 first | rw [hji114] at H | simp only [hji114] at H
 (try rw [hji114] at A8)
 (try rw [hji114] at A112)
 have hji114w : (IntKind.i64.wrap (((rd_T73 l0 a2).f0) - 2)) = ji114 := (i64_w _).trans hji114
 by_cases c115 : 0 ≤ (ji114)
 ·rw [if_pos c115] at H
  have c115b0 := decide_eq_true c115
  clear c115
  revert H; refine pd_ fun c116b0 H => ?_
  revert H; refine pf_ fun c117 H => ?_
  have c117b0 := eq_true c117
  have c117b1 := decide_eq_true c117
  try have c117b2 : (9223372036854775807 < (t413 ++ (⟨#[32]⟩ : ByteArray)).size + (rdOf ByteArray.empty y414 (ji114)).size) = False := eq_false (Nat.not_lt.2 c117)
  have c117b3 : (9223372036854775807 < t413.size + 1 + (rdOf ByteArray.empty y414 (ji114)).size) = False := eq_false (Nat.not_lt.2 (by have h_ := c117; simp only [ByteArray.size_append] at h_; exact h_))
  revert H; refine pf_ fun c118 H => ?_
  have c118b0 := eq_true c118
  have c118b1 := decide_eq_true c118
  try have c118b2 : (9223372036854775807 < ((t413 ++ (⟨#[32]⟩ : ByteArray)) ++ (rdOf ByteArray.empty y414 (ji114))).size + 1) = False := eq_false (Nat.not_lt.2 c118)
  have c118b3 : (9223372036854775807 < t413.size + 1 + (rdOf ByteArray.empty y414 (ji114)).size + 1) = False := eq_false (Nat.not_lt.2 (by have h_ := c118; simp only [ByteArray.size_append] at h_; exact h_))
  revert H; refine pf_ fun c119 H => ?_
  have c119b0 := decide_eq_true c119
  have c119b1 : decide (1 < (rd_L3 l1 a2).length) = true := decide_eq_true (by omega)
  clear c119
  revert H; refine bn_ ?_; rintro t419 A120 H; try dsimp only at H
  revert H; refine pf_ fun c121 H => ?_
  have c121b0 := eq_true c121
  have c121b1 := decide_eq_true c121
  try have c121b2 : (9223372036854775807 < (((t413 ++ (⟨#[32]⟩ : ByteArray)) ++ (rdOf ByteArray.empty y414 (ji114))) ++ (⟨#[32]⟩ : ByteArray)).size + t419.size) = False := eq_false (Nat.not_lt.2 c121)
  have c121b3 : (9223372036854775807 < t413.size + 1 + (rdOf ByteArray.empty y414 (ji114)).size + 1 + t419.size) = False := eq_false (Nat.not_lt.2 (by have h_ := c121; simp only [ByteArray.size_append] at h_; exact h_))
  by_cases c122 : t394 < a3
  ·rw [if_pos c122] at H
   have c122b0 := decide_eq_true c122
   clear c122
   revert H; refine pf_ fun c123 H => ?_
   have c123b0 := eq_true c123
   have c123b1 := decide_eq_true c123
   try have c123b2 : (9223372036854775807 < 2 + ((((t413 ++ (⟨#[32]⟩ : ByteArray)) ++ (rdOf ByteArray.empty y414 (ji114))) ++ (⟨#[32]⟩ : ByteArray)) ++ t419).size) = False := eq_false (Nat.not_lt.2 c123)
   have c123b3 : (9223372036854775807 < 2 + (t413.size + 1 + (rdOf ByteArray.empty y414 (ji114)).size + 1 + t419.size)) = False := eq_false (Nat.not_lt.2 (by have h_ := c123; simp only [ByteArray.size_append] at h_; exact h_))
   by_cases c124 : ((⟨#[40, 32]⟩ : ByteArray) ++ ((((t413 ++ (⟨#[32]⟩ : ByteArray)) ++ (rdOf ByteArray.empty y414 (ji114))) ++ (⟨#[32]⟩ : ByteArray)) ++ t419)).size + 2 ≤ 9223372036854775807
   case neg => rw [if_neg c124] at H; exact absurd H (by simp)
   refine ?z12_
   let rec p12_ : type_of% ?z12_ := by(
   rw [if_pos c124] at H
   have c124b0 := eq_true c124
   have c124b1 := decide_eq_true c124
   try have c124b2 : (9223372036854775807 < ((⟨#[40, 32]⟩ : ByteArray) ++ ((((t413 ++ (⟨#[32]⟩ : ByteArray)) ++ (rdOf ByteArray.empty y414 (ji114))) ++ (⟨#[32]⟩ : ByteArray)) ++ t419)).size + 2) = False := eq_false (Nat.not_lt.2 c124)
   have c124b3 : (9223372036854775807 < 2 + (t413.size + 1 + (rdOf ByteArray.empty y414 (ji114)).size + 1 + t419.size) + 2) = False := eq_false (Nat.not_lt.2 (by have h_ := c124; simp only [ByteArray.size_append] at h_; exact h_))
   obtain rfl := Option.some.inj H
   go_enter Tryz.func47, Tryz.ntmps47
   try go_wp2
   replace HB := am_ (below_drew1 HB.out)
   have p391 : 0 ≤ (a2 : Int) := od_
   have q391 : a2 < (l0.length : Int) := od_
   obtain ⟨ad391, e391, hx391_0, hx391_1⟩ := at_T73 HR0.out a2 p391 q391
   have hw391_1 := hx391_1
   have hw391_0 := hx391_0
   cases e391
   replace hx391_0 := hc_ HB hx391_0
   replace hx391_1 := hc_ HB hx391_1
   replace p391 := eq_true p391
   replace q391 := eq_true q391
   have p392 : 0 ≤ (a2 : Int) := od_
   have q392 : a2 < (l1.length : Int) := od_
   obtain ⟨ad392, A392_0, c392_0, e392, hx392_0, hl392_0, hi392_0⟩ := at_L3 HR1.out a2 p392 q392
   have hw392_0 := hx392_0
   cases e392
   replace hx392_0 := hc_ HB hx392_0
   have HR392_0 := am_ hi392_0
   have HC392_0 := am_ hl392_0
   clear hi392_0 hl392_0
   replace p392 := eq_true p392
   replace q392 := eq_true q392
   refine start_ (n := 11) (S := fun w' => w'.cell? (ad391.add ((a2).toNat * 2)) = some (.int .i64 ((rd_T73 l0 a2).f0)) ∧ w'.cell? ⟨(ad391.add ((a2).toNat * 2)).block, (ad391.add ((a2).toNat * 2)).off + 1, none⟩ = some (.int .i64 ((rd_T73 l0 a2).f1)) ∧ w'.cell? (ad392.add (a2).toNat) = some (.slice A392_0 (rd_L3 l1 a2).length c392_0)) (ds := []) (bb 11 0) (by kernel_rfl) rfl rfl ⟨(hcl_ HB hw391_0), (hcl_ HB hw391_1), (hcl_ HB hw392_0)⟩ (fun hHeld => ?_); refine with_tabW spec_ruShow.tab1 spec_ruShow.bits1 (fun HT_ HW_ => ?_)
   generalize w.drew = w125 at HB HR392_0 hx391_0 hx391_1 hx392_0 hHeld ⊢
   refine pm_ HT_ 0 13 11 1 ?_
   refine pm_ HT_ 1 14 11 3 ?_
   refine pm_ HT_ 2 15 11 7 ?_
   refine pm_ HT_ 4 17 11 23 ?_
   refine pm_ HT_ 5 18 11 55 ?_
   refine pm_ HT_ 6 19 11 119 ?_
   refine tk_ HT_ HW_ hHeld 3 (some 16) (bb 11 127) (h := ?_)
   refine tk_ HT_ HW_ hHeld 7 (some 20) (bb 11 255) (h := ?_)
   refine one_ (i := 8) (N := some 9) (bb 11 511) rfl rfl (one_of HT_.out (by kernel_rfl)) (by decide) (fun K hK => ?_)
   refine box_step ?hg (N := 9) ?hd (cs := #[.int .i64 0, .int .i64 0]) (t := 73) ?hr ?_; (case hd => rfl); (case hg => rfl); (case hr => first | (go_simp; done) | (go_simp; rfl))
   intro gb393 hg w126 hbox hb
   have n0_ := am_ (below_step (hb_ HB) hb)
   have n1_ := am_ (hbox)
   have n2_ := am_ ((by rw [hg]; exact (below_size (hb_ HB)) : w.heap.size ≤ gb393))
   have n3_ := am_ ((by rw [hg]; exact (below_size (hb_ HB)) : w.heap.size ≤ gb393))
   clear HB
   have HB := n0_
   have BK393 := n1_
   have GW393 := n2_
   have GE393 := n3_
   clear n0_ n1_ n2_ n3_
   clear hb hbox hg
   refine hK.out _ _ ⟨(hcl_ HB hw391_0), (hcl_ HB hw391_1), (hcl_ HB hw392_0)⟩ (fun hHeld => ?_)
   clear hK K
   refine nm_ (some 9) (h := ?_)
   refine one_ (i := 9) (N := none) (bb 11 1023) rfl rfl (one_of HT_.out (by kernel_rfl)) (by decide) (fun K hK => ?_)
   have hs127 : w126.cell? ⟨gb393, 0, none⟩ = some (.int .i64 0) := (blk_cell BK393.out 0).trans rfl
   have hfs127 := blk_frozen BK393.out 0
   have hs128 : w126.cell? ⟨gb393, 1, none⟩ = some (.int .i64 0) := (blk_cell BK393.out 1).trans rfl
   have hfs128 := blk_frozen BK393.out 1
   refine skip_ (w1 := ?_) (by rfl) rfl ?_ ?_
   rotate_left
   ·go_simp
    rfl
   refine hK.out _ _ ⟨((cfr_ hw391_0 GW393.out).trans (((cfr_ hw391_0 GW393.out).trans (hHeld.1)))), ((cfr_ hw391_1 GW393.out).trans (((cfr_ hw391_1 GW393.out).trans (hHeld.2.1)))), ((cfr_ hw392_0 GW393.out).trans (((cfr_ hw392_0 GW393.out).trans (hHeld.2.2))))⟩ (fun hHeld => ?_)
   clear hK K
   refine pm_ HT_ 10 10 11 2047 ?_
   refine done_ (done_of HT_.out (by kernel_rfl)) ?_
   obtain ⟨hcz129_0, hcz129_1, hfz129_0, hfz129_1⟩ := bx2 BK393
   try go_wp2_with (first | ((with_reducible refine gk_ 66 ?_); refine gq_ 23 Tryz.func66 #[.int .i64 ((rd_T73 l0 a2).f0)] ?_; (with_reducible refine (spec_ruLevel.calls ((rd_T73 l0 a2).f0) t394 _ A8.out).mono ?_); rintro e w' ⟨rfl, ⟨nd, rfl⟩⟩; refine ⟨_, rfl, ?_⟩))
   have pi417 : (0 ≤ ((ji114) : Int)) = True := eq_true (od_)
   have qi417 : ((ji114) < (y414.length : Int)) = True := eq_true (od_)
   have n0_ : Aside0 (((w126.setCell ⟨gb393, 0, none⟩ (.int .i64 ((rd_T73 l0 a2).f0))).setCell ⟨gb393, 1, none⟩ (.int .i64 ((rd_T73 l0 a2).f1))).heap[gb393]? = some (.cells #[.int .i64 ((rd_T73 l0 a2).f0), .int .i64 ((rd_T73 l0 a2).f1)] 73 (0, 0))) := ⟨kpq_ (kputs BK393 [(0, _), (1, _)])⟩
   have n1_ : Aside0 (Below w.heap.size w ((w126.setCell ⟨gb393, 0, none⟩ (.int .i64 ((rd_T73 l0 a2).f0))).setCell ⟨gb393, 1, none⟩ (.int .i64 ((rd_T73 l0 a2).f1)))) := ⟨hb_ HB⟩
   generalize ((w126.setCell ⟨gb393, 0, none⟩ (.int .i64 ((rd_T73 l0 a2).f0))).setCell ⟨gb393, 1, none⟩ (.int .i64 ((rd_T73 l0 a2).f1))) = w130 at n0_ n1_ ⊢
   have BK393 := n0_
   have HB := n1_
   clear n0_ n1_
   (try (rw [drewN_self w130]; generalize hq_ : World.drewN w130 _ = w130; have n0_ : Aside0 (w130.heap[gb393]? = some (.cells #[.int .i64 ((rd_T73 l0 a2).f0), .int .i64 ((rd_T73 l0 a2).f1)] 73 (0, 0))) := ⟨by rw [← hq_]; exact (kp_ BK393)⟩; have n1_ : Aside0 (Below w.heap.size w w130) := ⟨by rw [← hq_]; exact (hb_ HB)⟩; clear BK393 HB hq_; have BK393 := n0_; have HB := n1_; clear n0_ n1_))
   replace BK393 := am_ (blk_drew BK393.out)
   replace HB := am_ (below_drew1 HB.out)
   have p412 : 0 ≤ (0 : Int) := (by omega)
   have q412 : 0 < ((rd_L3 l1 a2).length : Int) := od_
   obtain ⟨ad412, e412, hx412_0⟩ := Kd.at_int HR392_0.out 0 p412 q412
   have hw412_0 := hx412_0
   (try rw [show ((0 : Int)).toNat = 0 from rfl] at hw412_0)
   (try rw [show 0 * 1 = 0 from rfl] at hw412_0)
   (try rw [Addr.add_zero'] at hw412_0)
   cases e412
   have qi412 : (0 < (rd_L3 l1 a2).length) = True := eq_true (by omega)
   (try rw [show ((0 : Int)).toNat = 0 from rfl] at hx412_0)
   (try rw [Addr.add_zero'] at hx412_0)
   replace hx412_0 := hc_ HB hx412_0
   replace p412 := eq_true p412
   replace q412 := eq_true q412
   have p418 : 0 ≤ (1 : Int) := (by omega)
   have q418 : 1 < ((rd_L3 l1 a2).length : Int) := od_
   obtain ⟨ad418, e418, hx418_0⟩ := Kd.at_int HR392_0.out 1 p418 q418
   have hw418_0 := hx418_0
   (try rw [show ((1 : Int)).toNat = 1 from rfl] at hw418_0)
   (try rw [show 1 * 1 = 1 from rfl] at hw418_0)
   (try simp only [Nat.reduceMul, Nat.reduceEqDiff, Go.Addr.add, ↓reduceIte] at hw418_0)
   obtain rfl : ad412 = ad418 := (by injection e418)
   (try simp only [show (1 : Int).toNat = 1 from rfl, Nat.reduceMul, Nat.reduceEqDiff, Go.Addr.add, ↓reduceIte] at hx418_0)
   have qi418 : (1 < (rd_L3 l1 a2).length) = True := eq_true (by omega)
   (try rw [show ((1 : Int)).toNat = 1 from rfl] at hx418_0)
   replace hx418_0 := hc_ HB hx418_0
   replace p418 := eq_true p418
   replace q418 := eq_true q418
   refine start_ (n := 26) (S := fun w' => True) (ds := []) (bb 26 0) (by kernel_rfl) rfl rfl trivial (fun hHeld => ?_); refine with_tabW spec_ruShow.tab5 spec_ruShow.bits5 (fun HT_ HW_ => ?_)
   generalize w130.drew = w131 at BK393 HB hx412_0 hx418_0 hHeld ⊢
   refine pm_ HT_ 0 25 26 1 ?_
   refine pm_ HT_ 1 26 26 3 ?_
   refine pm_ HT_ 2 27 26 7 ?_
   refine pm_ HT_ 5 30 26 39 ?_
   refine pm_ HT_ 9 34 26 551 ?_
   refine pm_ HT_ 16 41 26 66087 ?_
   refine pm_ HT_ 17 42 26 197159 ?_
   refine pm_ HT_ 18 43 26 459303 ?_
   refine pm_ HT_ 21 46 26 2556455 ?_
   refine inv_at [3, 4, 6, 7, 8, 10, 11, 12, 13, 14, 15, 19, 20, 22, 23, 24, 25] (fun a0_ b a w' => ∃ (v415 : Value) (az415 : Addr) (m12_ : Value), a = putSel a0_ b [(3, 28, .pointer (some ad412)), (4, 29, .int .i64 (rd (rd_L3 l1 a2) 0)), (6, 31, .string t413), (7, 32, .string (t413 ++ (⟨#[32]⟩ : ByteArray))), (8, 33, v415), (10, 35, .int .i64 ((rd_T73 l0 a2).f0)), (11, 36, .int .i64 ji114), (12, 37, m12_), (13, 38, .string (rdOf ByteArray.empty y414 (ji114))), (14, 39, .string ((t413 ++ (⟨#[32]⟩ : ByteArray)) ++ (rdOf ByteArray.empty y414 (ji114)))), (15, 40, .string (((t413 ++ (⟨#[32]⟩ : ByteArray)) ++ (rdOf ByteArray.empty y414 (ji114))) ++ (⟨#[32]⟩ : ByteArray))), (19, 44, .pointer (some (ad412.add 1))), (20, 45, .int .i64 (rd (rd_L3 l1 a2) 1)), (22, 47, .int .i64 (wrap64 (t394 + 1))), (23, 48, .string t419), (24, 49, .string ((((t413 ++ (⟨#[32]⟩ : ByteArray)) ++ (rdOf ByteArray.empty y414 (ji114))) ++ (⟨#[32]⟩ : ByteArray)) ++ t419)), (25, 12, .string ((((t413 ++ (⟨#[32]⟩ : ByteArray)) ++ (rdOf ByteArray.empty y414 (ji114))) ++ (⟨#[32]⟩ : ByteArray)) ++ t419))] ∧ (w'.heap[gb393]? = some (.cells #[.int .i64 ((rd_T73 l0 a2).f0), .int .i64 ((rd_T73 l0 a2).f1)] 73 (0, 0))) ∧ (Below w.heap.size w w') ∧ (b 8 = true → Kd.R Kd.string 9 w' w.heap.size (fun _ => True) v415 y414) ∧ (b 8 = true → ∃ c_, (v415 : Value) = .slice (some az415) y414.length c_) ∧ (b 12 = true → (m12_ : Value) = .pointer (some (az415.add ((ji114)).toNat)))) HT_.out HW_.out (by kernel_rfl) (by kernel_rfl) ?_ ?_ ?_
   ·exact ⟨.bool false, ⟨0, 0, none⟩, .bool false, by simp only [putSel, Bool.false_eq_true, if_false], BK393.out, HB.out, fun h_ => absurd h_ (by decide), fun h_ => absurd h_ (by decide), fun h_ => absurd h_ (by decide)⟩
   ·refine ?z13_
    let rec p13_ : type_of% ?z13_ := by(
    skip
    clear BK393 HB
    refine steps_cons ?_ ?_
    ·rintro b a w' ⟨v415, az415, m12_, ha, q2_, q6_, q3_, q1_, q5_⟩ hbq_ hon hoff
     refine ⟨_, rfl, fun K hK => ?_⟩
     have e27 : a.tmps[27]? = some (.slice (some ad412) (rd_L3 l1 a2).length c392_0) := pq_ ha rfl rfl
     replace ha := am_ ha
     have HB := am_ q6_
     have hs0_ := hcl_ HB hw412_0
     refine value_ (w1 := w') (v := .pointer (some ad412)) (by rfl) rfl ?_ ?_
     ·go_simp
      (try simp only [i64_w])
      try rfl
     refine hK.out _ _ ⟨v415, az415, m12_, (pu_ ha 0 hbq_ rfl rfl rfl), q2_, q6_, q3_, q1_, q5_⟩
    refine steps_cons ?_ ?_
    ·rintro b a w' ⟨v415, az415, m12_, ha, q2_, q6_, q3_, q1_, q5_⟩ hbq_ hon hoff
     refine ⟨_, rfl, fun K hK => ?_⟩
     have e28 := po_ ha 0 3 28 (.pointer (some ad412)) rfl rfl (hon 3 (by kernel_rfl)) rfl
     replace ha := am_ ha
     have HB := am_ q6_
     have hs0_ := hcl_ HB hw412_0
     refine value_ (w1 := w') (v := .int .i64 (rd (rd_L3 l1 a2) 0)) (by rfl) rfl ?_ ?_
     ·go_simp
      (try simp only [i64_w])
      try rfl
     refine hK.out _ _ ⟨v415, az415, m12_, (pu_ ha 1 hbq_ rfl rfl rfl), q2_, q6_, q3_, q1_, q5_⟩
    refine steps_cons ?_ ?_
    ·rintro b a w' ⟨v415, az415, m12_, ha, q2_, q6_, q3_, q1_, q5_⟩ hbq_ hon hoff
     refine ⟨_, rfl, fun K hK => ?_⟩
     have e25 : a.tmps[25]? = some (.slice (some ad391) l0.length c0) := pq_ ha rfl rfl
     have e26 : a.tmps[26]? = some (.slice (some ad392) l1.length c1) := pq_ ha rfl rfl
     have e29 := po_ ha 1 4 29 (.int .i64 (rd (rd_L3 l1 a2) 0)) rfl rfl (hon 4 (by kernel_rfl)) rfl
     have e30 : a.tmps[30]? = some (.int .i64 t394) := pq_ ha rfl rfl
     replace ha := am_ ha
     have BK393 := am_ q2_
     have HB := am_ q6_
     refine goes_ Tryz.func47 (by kernel_rfl) rfl #[.slice (some ad391) l0.length c0, .slice (some ad392) l1.length c1, .int .i64 (rd (rd_L3 l1 a2) 0), .int .i64 t394] (by rfl) rfl rfl (by simp only [List.map_toArray, List.map_cons, List.map_nil, Act.eval, Array.getD_eq_getD_getElem?, Option.getD_some, e25, e26, e29, e30] <;> rfl) ?_
     with_reducible refine (ih k (by omega) _ _ l0 _ _ l1 (rd (rd_L3 l1 a2) 0) t394 t413 _ ?side1 ?side2 ?side3 ?side4 A112.out).mono ?_
     (case side1 => exact Kd.C_w HR0 HB)
     (case side2 => exact HC0.out)
     (case side3 => exact Kd.C_w HR1 HB)
     (case side4 => exact HC1.out)
     rintro e w132 ⟨rfl, hb⟩
     refine ⟨_, rfl, ?_⟩
     have n0_ := am_ (blk_below (kp_ BK393) hb)
     have n1_ := am_ (below_step (hb_ HB) hb)
     have z_HO416 := fun (h0_ : b 8 = true) => (show Kd.R Kd.string 9 w132 w.heap.size (fun _ => True) v415 y414 from by first | exact (Kd.R_below (Kd.R_pp ((q3_ h0_))) hb) | exact Kd.R_mono (Kd.R_below (Kd.R_pp ((q3_ h0_))) hb) (fun _ h_ => by first | trivial | exact h_ | exact h_.1))
     clear BK393
     clear HB
     have BK393 := n0_
     have HB := n1_
     clear n0_ n1_
     refine hK.out _ _ ⟨v415, az415, m12_, (pu_ ha 2 hbq_ rfl rfl rfl), (kp_ BK393), (hb_ HB), z_HO416, q1_, q5_⟩
    refine steps_cons ?_ ?_
    ·rintro b a w' ⟨v415, az415, m12_, ha, q2_, q6_, q3_, q1_, q5_⟩ hbq_ hon hoff
     refine ⟨_, rfl, fun K hK => ?_⟩
     have e31 := po_ ha 2 6 31 (.string t413) rfl rfl (hon 6 (by kernel_rfl)) rfl
     replace ha := am_ ha
     refine value_ (w1 := w') (v := .string (t413 ++ (⟨#[32]⟩ : ByteArray))) (by rfl) rfl ?_ ?_
     ·go_simp
      (try simp only [i64_w])
      try rfl
     refine hK.out _ _ ⟨v415, az415, m12_, (pu_ ha 3 hbq_ rfl rfl rfl), q2_, q6_, q3_, q1_, q5_⟩
    refine steps_cons ?_ ?_
    ·rintro b a w' ⟨v415, az415, m12_, ha, q2_, q6_, q3_, q1_, q5_⟩ hbq_ hon hoff
     refine ⟨_, rfl, fun K hK => ?_⟩
     replace ha := am_ ha
     have BK393 := am_ q2_
     have HB := am_ q6_
     refine Kd.R_lit_step Kd.string _ 9 ?hg (N := 33) ?hd (xs := ([⟨#[43]⟩, ⟨#[45]⟩, ⟨#[42]⟩, ⟨#[47]⟩] : List ByteArray)) (inner := [.string ⟨#[43]⟩, .string ⟨#[45]⟩, .string ⟨#[42]⟩, .string ⟨#[47]⟩]) (ok := fun _ => True) (okp := fun _ => True) ?hr ?hp (fun _ hk => hk) trivial (Below.refl _ _) (Nat.le_refl _) (by simp) ?_; (case hd => rfl); (case hg => rfl); (case hr => first | (go_simp; done) | (go_simp; rfl)); (case hp => exact (Reps.one (show Kd.M Kd.string _ _ _ (⟨#[43]⟩ : ByteArray) [.string ⟨#[43]⟩] from rfl) (Reps.one (show Kd.M Kd.string _ _ _ (⟨#[45]⟩ : ByteArray) [.string ⟨#[45]⟩] from rfl) (Reps.one (show Kd.M Kd.string _ _ _ (⟨#[42]⟩ : ByteArray) [.string ⟨#[42]⟩] from rfl) (Reps.one (show Kd.M Kd.string _ _ _ (⟨#[47]⟩ : ByteArray) [.string ⟨#[47]⟩] from rfl) (Reps.none _ _))))))
     intro v415 w132 ho133 hb hg_ hnew_
     clear hg_ hnew_
     (first | rw [← Ny414.out] at ho133 | (simp only [Int.reduceToNat] at ho133; rw [← Ny414.out] at ho133))
     have HO416 := am_ (Kd.R_lower ho133 (below_size (hb_ HB)))
     replace BK393 := am_ (blk_below (kp_ BK393) hb)
     replace HB := am_ (below_step (hb_ HB) hb)
     clear hb ho133
     obtain ⟨Ao134, co134, eo134⟩ := Kd.R_slice HO416.out
     subst eo134
     obtain ⟨ado134, fo134, _⟩ := Kd.at_string (Kd.R_reads' HO416.out).2.2 0 (by decide) (by rw [Ny414.out]; simp)
     cases fo134
     refine hK.out _ _ ⟨.slice (some ado134) y414.length co134, ado134, m12_, (pu_ ha 4 hbq_ rfl rfl rfl), (kp_ BK393), (hb_ HB), fun _ => (Kd.R_p HO416), fun _ => ⟨_, rfl⟩, fun h0_ => absurd ((hoff 12 (by kernel_rfl)).symm.trans h0_) (by decide)⟩
    refine steps_cons ?_ ?_
    ·rintro b a w' ⟨v415, az415, m12_, ha, q2_, q6_, q3_, q1_, q5_⟩ hbq_ hon hoff
     refine ⟨_, rfl, fun K hK => ?_⟩
     have e34 : a.tmps[34]? = some (.pointer (some ⟨gb393, 0, none⟩)) := pq_ ha rfl rfl
     replace ha := am_ ha
     have BK393 := am_ q2_
     have hc0_ : w'.cell? ⟨gb393, 0, none⟩ = some (.int .i64 ((rd_T73 l0 a2).f0)) := (blk_cell BK393.out 0).trans rfl
     have hc1_ : w'.cell? ⟨gb393, 1, none⟩ = some (.int .i64 ((rd_T73 l0 a2).f1)) := (blk_cell BK393.out 1).trans rfl
     refine value_ (w1 := w') (v := .int .i64 ((rd_T73 l0 a2).f0)) (by rfl) rfl ?_ ?_
     ·go_simp
      (try simp only [i64_w])
      try rfl
     refine hK.out _ _ ⟨v415, az415, m12_, (pu_ ha 5 hbq_ rfl rfl rfl), q2_, q6_, q3_, q1_, fun h0_ => absurd ((hoff 12 (by kernel_rfl)).symm.trans h0_) (by decide)⟩
    refine steps_cons ?_ ?_
    ·rintro b a w' ⟨v415, az415, m12_, ha, q2_, q6_, q3_, q1_, q5_⟩ hbq_ hon hoff
     refine ⟨_, rfl, fun K hK => ?_⟩
     have e35 := po_ ha 5 10 35 (.int .i64 ((rd_T73 l0 a2).f0)) rfl rfl (hon 10 (by kernel_rfl)) rfl
     replace ha := am_ ha
     refine value_ (w1 := w') (v := .int .i64 ji114) (by rfl) rfl ?_ ?_
     ·go_simp
      (try simp only [i64_w])
      try rfl
     refine hK.out _ _ ⟨v415, az415, m12_, (pu_ ha 6 hbq_ rfl rfl rfl), q2_, q6_, q3_, q1_, fun h0_ => absurd ((hoff 12 (by kernel_rfl)).symm.trans h0_) (by decide)⟩
    refine steps_cons ?_ ?_
    ·rintro b a w' ⟨v415, az415, m12_, ha, q2_, q6_, q3_, q1_, q5_⟩ hbq_ hon hoff
     refine ⟨_, rfl, fun K hK => ?_⟩
     have e33 := po_ ha 4 8 33 (v415) rfl rfl (hon 8 (by kernel_rfl)) rfl
     have e36 := po_ ha 6 11 36 (.int .i64 ji114) rfl rfl (hon 11 (by kernel_rfl)) rfl
     replace ha := am_ ha
     have HO416 := am_ (q3_ (hon 8 (by kernel_rfl)))
     have HA_HO416 := am_ (q1_ (hon 8 (by kernel_rfl)))
     obtain ⟨c_, hv_⟩ := HA_HO416.out
     rw [hv_] at e33
     refine value_ (w1 := w') (v := .pointer (some (az415.add ((ji114)).toNat))) (by rfl) rfl ?_ ?_
     ·go_simp
      (try simp only [i64_w])
      try rfl
     refine hK.out _ _ ⟨v415, az415, (.pointer (some (az415.add ((ji114)).toNat))), (pu_ ha 7 hbq_ rfl rfl rfl), q2_, q6_, q3_, q1_, fun _ => rfl⟩
    refine steps_cons ?_ ?_
    ·rintro b a w' ⟨v415, az415, m12_, ha, q2_, q6_, q3_, q1_, q5_⟩ hbq_ hon hoff
     refine ⟨_, rfl, fun K hK => ?_⟩
     have e37 := po_ ha 7 12 37 (m12_) rfl rfl (hon 12 (by kernel_rfl)) rfl
     rw [q5_ (hon 12 (by kernel_rfl))] at e37
     replace ha := am_ ha
     have HO416 := am_ (q3_ (hon 8 (by kernel_rfl)))
     have HA_HO416 := am_ (q1_ (hon 8 (by kernel_rfl)))
     obtain ⟨c_, hv_⟩ := HA_HO416.out
     have hF_ := HO416.out
     rw [hv_] at hF_
     obtain ⟨ad_, ea_, hx_⟩ := Kd.at_string (Kd.R_reads' hF_).2.2 (ji114) (of_eq_true pi417) (of_eq_true qi417)
     cases ea_
     refine value_ (w1 := w') (v := .string (rdOf ByteArray.empty y414 (ji114))) (by rfl) rfl ?_ ?_
     ·go_simp
      (try simp only [i64_w])
      try rfl
     refine hK.out _ _ ⟨v415, az415, m12_, (pu_ ha 8 hbq_ rfl rfl rfl), q2_, q6_, q3_, q1_, q5_⟩
    refine steps_cons ?_ ?_
    ·rintro b a w' ⟨v415, az415, m12_, ha, q2_, q6_, q3_, q1_, q5_⟩ hbq_ hon hoff
     refine ⟨_, rfl, fun K hK => ?_⟩
     have e32 := po_ ha 3 7 32 (.string (t413 ++ (⟨#[32]⟩ : ByteArray))) rfl rfl (hon 7 (by kernel_rfl)) rfl
     have e38 := po_ ha 8 13 38 (.string (rdOf ByteArray.empty y414 (ji114))) rfl rfl (hon 13 (by kernel_rfl)) rfl
     replace ha := am_ ha
     have HO416 := am_ (q3_ (hon 8 (by kernel_rfl)))
     have HA_HO416 := am_ (q1_ (hon 8 (by kernel_rfl)))
     refine value_ (w1 := w') (v := .string ((t413 ++ (⟨#[32]⟩ : ByteArray)) ++ (rdOf ByteArray.empty y414 (ji114)))) (by rfl) rfl ?_ ?_
     ·go_simp
      (try simp only [i64_w])
      try rfl
     refine hK.out _ _ ⟨v415, az415, m12_, (pu_ ha 9 hbq_ rfl rfl rfl), q2_, q6_, q3_, q1_, q5_⟩
    refine steps_cons ?_ ?_
    ·rintro b a w' ⟨v415, az415, m12_, ha, q2_, q6_, q3_, q1_, q5_⟩ hbq_ hon hoff
     refine ⟨_, rfl, fun K hK => ?_⟩
     have e39 := po_ ha 9 14 39 (.string ((t413 ++ (⟨#[32]⟩ : ByteArray)) ++ (rdOf ByteArray.empty y414 (ji114)))) rfl rfl (hon 14 (by kernel_rfl)) rfl
     replace ha := am_ ha
     have HO416 := am_ (q3_ (hon 8 (by kernel_rfl)))
     have HA_HO416 := am_ (q1_ (hon 8 (by kernel_rfl)))
     refine value_ (w1 := w') (v := .string (((t413 ++ (⟨#[32]⟩ : ByteArray)) ++ (rdOf ByteArray.empty y414 (ji114))) ++ (⟨#[32]⟩ : ByteArray))) (by rfl) rfl ?_ ?_
     ·go_simp
      (try simp only [i64_w])
      try rfl
     refine hK.out _ _ ⟨v415, az415, m12_, (pu_ ha 10 hbq_ rfl rfl rfl), q2_, q6_, q3_, q1_, q5_⟩
    refine steps_cons ?_ ?_
    ·rintro b a w' ⟨v415, az415, m12_, ha, q2_, q6_, q3_, q1_, q5_⟩ hbq_ hon hoff
     refine ⟨_, rfl, fun K hK => ?_⟩
     have e43 : a.tmps[43]? = some (.slice (some ad412) (rd_L3 l1 a2).length c392_0) := pq_ ha rfl rfl
     replace ha := am_ ha
     have HB := am_ q6_
     have hs1_ := hcl_ HB hw418_0
     refine value_ (w1 := w') (v := .pointer (some (ad412.add 1))) (by rfl) rfl ?_ ?_
     ·go_simp
      (try simp only [i64_w])
      try rfl
     refine hK.out _ _ ⟨v415, az415, m12_, (pu_ ha 11 hbq_ rfl rfl rfl), q2_, q6_, q3_, q1_, q5_⟩
    refine steps_cons ?_ ?_
    ·rintro b a w' ⟨v415, az415, m12_, ha, q2_, q6_, q3_, q1_, q5_⟩ hbq_ hon hoff
     refine ⟨_, rfl, fun K hK => ?_⟩
     have e44 := po_ ha 11 19 44 (.pointer (some (ad412.add 1))) rfl rfl (hon 19 (by kernel_rfl)) rfl
     replace ha := am_ ha
     have HB := am_ q6_
     have hs1_ := hcl_ HB hw418_0
     refine value_ (w1 := w') (v := .int .i64 (rd (rd_L3 l1 a2) 1)) (by rfl) rfl ?_ ?_
     ·go_simp
      (try simp only [i64_w])
      try rfl
     refine hK.out _ _ ⟨v415, az415, m12_, (pu_ ha 12 hbq_ rfl rfl rfl), q2_, q6_, q3_, q1_, q5_⟩
    refine steps_cons ?_ ?_
    ·rintro b a w' ⟨v415, az415, m12_, ha, q2_, q6_, q3_, q1_, q5_⟩ hbq_ hon hoff
     refine ⟨_, rfl, fun K hK => ?_⟩
     have e46 : a.tmps[46]? = some (.int .i64 t394) := pq_ ha rfl rfl
     replace ha := am_ ha
     refine value_ (w1 := w') (v := .int .i64 (wrap64 (t394 + 1))) (by rfl) rfl ?_ ?_
     ·go_simp
      (try simp only [i64_w])
      try rfl
     refine hK.out _ _ ⟨v415, az415, m12_, (pu_ ha 13 hbq_ rfl rfl rfl), q2_, q6_, q3_, q1_, q5_⟩
    refine steps_cons ?_ ?_
    ·rintro b a w' ⟨v415, az415, m12_, ha, q2_, q6_, q3_, q1_, q5_⟩ hbq_ hon hoff
     refine ⟨_, rfl, fun K hK => ?_⟩
     have e41 : a.tmps[41]? = some (.slice (some ad391) l0.length c0) := pq_ ha rfl rfl
     have e42 : a.tmps[42]? = some (.slice (some ad392) l1.length c1) := pq_ ha rfl rfl
     have e45 := po_ ha 12 20 45 (.int .i64 (rd (rd_L3 l1 a2) 1)) rfl rfl (hon 20 (by kernel_rfl)) rfl
     have e47 := po_ ha 13 22 47 (.int .i64 (wrap64 (t394 + 1))) rfl rfl (hon 22 (by kernel_rfl)) rfl
     replace ha := am_ ha
     have BK393 := am_ q2_
     have HB := am_ q6_
     refine goes_ Tryz.func47 (by kernel_rfl) rfl #[.slice (some ad391) l0.length c0, .slice (some ad392) l1.length c1, .int .i64 (rd (rd_L3 l1 a2) 1), .int .i64 (wrap64 (t394 + 1))] (by rfl) rfl rfl (by simp only [List.map_toArray, List.map_cons, List.map_nil, Act.eval, Array.getD_eq_getD_getElem?, Option.getD_some, e41, e42, e45, e47] <;> rfl) ?_
     with_reducible refine (ih k (by omega) _ _ l0 _ _ l1 (rd (rd_L3 l1 a2) 1) (wrap64 (t394 + 1)) t419 _ ?side1 ?side2 ?side3 ?side4 A120.out).mono ?_
     (case side1 => exact Kd.C_w HR0 HB)
     (case side2 => exact HC0.out)
     (case side3 => exact Kd.C_w HR1 HB)
     (case side4 => exact HC1.out)
     rintro e w134 ⟨rfl, hb⟩
     refine ⟨_, rfl, ?_⟩
     have n0_ := am_ (blk_below (kp_ BK393) hb)
     have n1_ := am_ (below_step (hb_ HB) hb)
     have z_HO416 := fun (h0_ : b 8 = true) => (show Kd.R Kd.string 9 w134 w.heap.size (fun _ => True) v415 y414 from by first | exact (Kd.R_below (Kd.R_pp ((q3_ h0_))) hb) | exact Kd.R_mono (Kd.R_below (Kd.R_pp ((q3_ h0_))) hb) (fun _ h_ => by first | trivial | exact h_ | exact h_.1))
     clear BK393
     clear HB
     have BK393 := n0_
     have HB := n1_
     clear n0_ n1_
     refine hK.out _ _ ⟨v415, az415, m12_, (pu_ ha 14 hbq_ rfl rfl rfl), (kp_ BK393), (hb_ HB), z_HO416, q1_, q5_⟩
    refine steps_cons ?_ ?_
    ·rintro b a w' ⟨v415, az415, m12_, ha, q2_, q6_, q3_, q1_, q5_⟩ hbq_ hon hoff
     refine ⟨_, rfl, fun K hK => ?_⟩
     have e40 := po_ ha 10 15 40 (.string (((t413 ++ (⟨#[32]⟩ : ByteArray)) ++ (rdOf ByteArray.empty y414 (ji114))) ++ (⟨#[32]⟩ : ByteArray))) rfl rfl (hon 15 (by kernel_rfl)) rfl
     have e48 := po_ ha 14 23 48 (.string t419) rfl rfl (hon 23 (by kernel_rfl)) rfl
     replace ha := am_ ha
     have HO416 := am_ (q3_ (hon 8 (by kernel_rfl)))
     have HA_HO416 := am_ (q1_ (hon 8 (by kernel_rfl)))
     refine value_ (w1 := w') (v := .string ((((t413 ++ (⟨#[32]⟩ : ByteArray)) ++ (rdOf ByteArray.empty y414 (ji114))) ++ (⟨#[32]⟩ : ByteArray)) ++ t419)) (by rfl) rfl ?_ ?_
     ·go_simp
      (try simp only [i64_w])
      try rfl
     refine hK.out _ _ ⟨v415, az415, m12_, (pu_ ha 15 hbq_ rfl rfl rfl), q2_, q6_, q3_, q1_, q5_⟩
    refine steps_cons ?_ ?_
    ·rintro b a w' ⟨v415, az415, m12_, ha, q2_, q6_, q3_, q1_, q5_⟩ hbq_ hon hoff
     refine ⟨_, rfl, fun K hK => ?_⟩
     have e49 := po_ ha 15 24 49 (.string ((((t413 ++ (⟨#[32]⟩ : ByteArray)) ++ (rdOf ByteArray.empty y414 (ji114))) ++ (⟨#[32]⟩ : ByteArray)) ++ t419)) rfl rfl (hon 24 (by kernel_rfl)) rfl
     replace ha := am_ ha
     have HO416 := am_ (q3_ (hon 8 (by kernel_rfl)))
     have HA_HO416 := am_ (q1_ (hon 8 (by kernel_rfl)))
     refine value_ (w1 := w') (v := .string ((((t413 ++ (⟨#[32]⟩ : ByteArray)) ++ (rdOf ByteArray.empty y414 (ji114))) ++ (⟨#[32]⟩ : ByteArray)) ++ t419)) (by rfl) rfl ?_ ?_
     ·go_simp
      (try simp only [i64_w])
      try rfl
     refine hK.out _ _ ⟨v415, az415, m12_, (pu_ ha 16 hbq_ rfl rfl rfl), q2_, q6_, q3_, q1_, q5_⟩
    exact steps_nil
    )
    exact p13_
   rintro b a w137 hall ⟨v415, az415, m12_, ha, q2_, q6_, q3_, q1_, q5_⟩
   clear BK393 HB
   have hb3_ := hall 3 (by kernel_rfl)
   have hb4_ := hall 4 (by kernel_rfl)
   have hb6_ := hall 6 (by kernel_rfl)
   have hb7_ := hall 7 (by kernel_rfl)
   have hb8_ := hall 8 (by kernel_rfl)
   have hb10_ := hall 10 (by kernel_rfl)
   have hb11_ := hall 11 (by kernel_rfl)
   have hb12_ := hall 12 (by kernel_rfl)
   have hb13_ := hall 13 (by kernel_rfl)
   have hb14_ := hall 14 (by kernel_rfl)
   have hb15_ := hall 15 (by kernel_rfl)
   have hb19_ := hall 19 (by kernel_rfl)
   have hb20_ := hall 20 (by kernel_rfl)
   have hb22_ := hall 22 (by kernel_rfl)
   have hb23_ := hall 23 (by kernel_rfl)
   have hb24_ := hall 24 (by kernel_rfl)
   have hb25_ := hall 25 (by kernel_rfl)
   subst ha
   obtain rfl := q5_ hb12_
   simp only [putSel, hb3_, hb4_, hb6_, hb7_, hb8_, hb10_, hb11_, hb12_, hb13_, hb14_, hb15_, hb19_, hb20_, hb22_, hb23_, hb24_, hb25_, if_true, Act.put, List.setIfInBounds_toArray, List.set_cons_zero, List.set_cons_succ]
   have BK393 := am_ q2_
   clear q2_
   have HB := am_ q6_
   clear q6_
   have HO416 := am_ (q3_ hb8_)
   clear q3_
   have HA_HO416 := am_ (q1_ hb8_)
   clear q1_
   clear hall hb3_ hb4_ hb6_ hb7_ hb8_ hb10_ hb11_ hb12_ hb13_ hb14_ hb15_ hb19_ hb20_ hb22_ hb23_ hb24_ hb25_
   obtain ⟨co138, eo138⟩ := HA_HO416.out
   clear HA_HO416
   subst eo138
   try go_wp2
   go_ret
   exact ⟨by first | rfl | (simp [errW_none, errW_some] <;> rfl) | (simp only [← hji114]; first | rfl | (simp [errW_none, errW_some] <;> rfl)) | (simp [*, errW_none, errW_some] <;> rfl), hb_ HB⟩
   )
   exact p12_
  refine ?z14_
  let rec p14_ : type_of% ?z14_ := by(
  rw [if_neg c122] at H
  have c122b0 := decide_eq_false c122
  clear c122
  obtain rfl := Option.some.inj H
  go_enter Tryz.func47, Tryz.ntmps47
  try go_wp2
  replace HB := am_ (below_drew1 HB.out)
  have p391 : 0 ≤ (a2 : Int) := od_
  have q391 : a2 < (l0.length : Int) := od_
  obtain ⟨ad391, e391, hx391_0, hx391_1⟩ := at_T73 HR0.out a2 p391 q391
  have hw391_1 := hx391_1
  have hw391_0 := hx391_0
  cases e391
  replace hx391_0 := hc_ HB hx391_0
  replace hx391_1 := hc_ HB hx391_1
  replace p391 := eq_true p391
  replace q391 := eq_true q391
  have p392 : 0 ≤ (a2 : Int) := od_
  have q392 : a2 < (l1.length : Int) := od_
  obtain ⟨ad392, A392_0, c392_0, e392, hx392_0, hl392_0, hi392_0⟩ := at_L3 HR1.out a2 p392 q392
  have hw392_0 := hx392_0
  cases e392
  replace hx392_0 := hc_ HB hx392_0
  have HR392_0 := am_ hi392_0
  have HC392_0 := am_ hl392_0
  clear hi392_0 hl392_0
  replace p392 := eq_true p392
  replace q392 := eq_true q392
  refine start_ (n := 11) (S := fun w' => w'.cell? (ad391.add ((a2).toNat * 2)) = some (.int .i64 ((rd_T73 l0 a2).f0)) ∧ w'.cell? ⟨(ad391.add ((a2).toNat * 2)).block, (ad391.add ((a2).toNat * 2)).off + 1, none⟩ = some (.int .i64 ((rd_T73 l0 a2).f1)) ∧ w'.cell? (ad392.add (a2).toNat) = some (.slice A392_0 (rd_L3 l1 a2).length c392_0)) (ds := []) (bb 11 0) (by kernel_rfl) rfl rfl ⟨(hcl_ HB hw391_0), (hcl_ HB hw391_1), (hcl_ HB hw392_0)⟩ (fun hHeld => ?_); refine with_tabW spec_ruShow.tab1 spec_ruShow.bits1 (fun HT_ HW_ => ?_)
  generalize w.drew = w139 at HB HR392_0 hx391_0 hx391_1 hx392_0 hHeld ⊢
  refine pm_ HT_ 0 13 11 1 ?_
  refine pm_ HT_ 1 14 11 3 ?_
  refine pm_ HT_ 2 15 11 7 ?_
  refine pm_ HT_ 4 17 11 23 ?_
  refine pm_ HT_ 5 18 11 55 ?_
  refine pm_ HT_ 6 19 11 119 ?_
  refine tk_ HT_ HW_ hHeld 3 (some 16) (bb 11 127) (h := ?_)
  refine tk_ HT_ HW_ hHeld 7 (some 20) (bb 11 255) (h := ?_)
  refine one_ (i := 8) (N := some 9) (bb 11 511) rfl rfl (one_of HT_.out (by kernel_rfl)) (by decide) (fun K hK => ?_)
  refine box_step ?hg (N := 9) ?hd (cs := #[.int .i64 0, .int .i64 0]) (t := 73) ?hr ?_; (case hd => rfl); (case hg => rfl); (case hr => first | (go_simp; done) | (go_simp; rfl))
  intro gb393 hg w140 hbox hb
  have n0_ := am_ (below_step (hb_ HB) hb)
  have n1_ := am_ (hbox)
  have n2_ := am_ ((by rw [hg]; exact (below_size (hb_ HB)) : w.heap.size ≤ gb393))
  have n3_ := am_ ((by rw [hg]; exact (below_size (hb_ HB)) : w.heap.size ≤ gb393))
  clear HB
  have HB := n0_
  have BK393 := n1_
  have GW393 := n2_
  have GE393 := n3_
  clear n0_ n1_ n2_ n3_
  clear hb hbox hg
  refine hK.out _ _ ⟨(hcl_ HB hw391_0), (hcl_ HB hw391_1), (hcl_ HB hw392_0)⟩ (fun hHeld => ?_)
  clear hK K
  refine nm_ (some 9) (h := ?_)
  refine one_ (i := 9) (N := none) (bb 11 1023) rfl rfl (one_of HT_.out (by kernel_rfl)) (by decide) (fun K hK => ?_)
  have hs141 : w140.cell? ⟨gb393, 0, none⟩ = some (.int .i64 0) := (blk_cell BK393.out 0).trans rfl
  have hfs141 := blk_frozen BK393.out 0
  have hs142 : w140.cell? ⟨gb393, 1, none⟩ = some (.int .i64 0) := (blk_cell BK393.out 1).trans rfl
  have hfs142 := blk_frozen BK393.out 1
  refine skip_ (w1 := ?_) (by rfl) rfl ?_ ?_
  rotate_left
  ·go_simp
   rfl
  refine hK.out _ _ ⟨((cfr_ hw391_0 GW393.out).trans (((cfr_ hw391_0 GW393.out).trans (hHeld.1)))), ((cfr_ hw391_1 GW393.out).trans (((cfr_ hw391_1 GW393.out).trans (hHeld.2.1)))), ((cfr_ hw392_0 GW393.out).trans (((cfr_ hw392_0 GW393.out).trans (hHeld.2.2))))⟩ (fun hHeld => ?_)
  clear hK K
  refine pm_ HT_ 10 10 11 2047 ?_
  refine done_ (done_of HT_.out (by kernel_rfl)) ?_
  obtain ⟨hcz143_0, hcz143_1, hfz143_0, hfz143_1⟩ := bx2 BK393
  try go_wp2_with (first | ((with_reducible refine gk_ 66 ?_); refine gq_ 23 Tryz.func66 #[.int .i64 ((rd_T73 l0 a2).f0)] ?_; (with_reducible refine (spec_ruLevel.calls ((rd_T73 l0 a2).f0) t394 _ A8.out).mono ?_); rintro e w' ⟨rfl, ⟨nd, rfl⟩⟩; refine ⟨_, rfl, ?_⟩))
  have pi417 : (0 ≤ ((ji114) : Int)) = True := eq_true (od_)
  have qi417 : ((ji114) < (y414.length : Int)) = True := eq_true (od_)
  have n0_ : Aside0 (((w140.setCell ⟨gb393, 0, none⟩ (.int .i64 ((rd_T73 l0 a2).f0))).setCell ⟨gb393, 1, none⟩ (.int .i64 ((rd_T73 l0 a2).f1))).heap[gb393]? = some (.cells #[.int .i64 ((rd_T73 l0 a2).f0), .int .i64 ((rd_T73 l0 a2).f1)] 73 (0, 0))) := ⟨kpq_ (kputs BK393 [(0, _), (1, _)])⟩
  have n1_ : Aside0 (Below w.heap.size w ((w140.setCell ⟨gb393, 0, none⟩ (.int .i64 ((rd_T73 l0 a2).f0))).setCell ⟨gb393, 1, none⟩ (.int .i64 ((rd_T73 l0 a2).f1)))) := ⟨hb_ HB⟩
  generalize ((w140.setCell ⟨gb393, 0, none⟩ (.int .i64 ((rd_T73 l0 a2).f0))).setCell ⟨gb393, 1, none⟩ (.int .i64 ((rd_T73 l0 a2).f1))) = w144 at n0_ n1_ ⊢
  have BK393 := n0_
  have HB := n1_
  clear n0_ n1_
  (try (rw [drewN_self w144]; generalize hq_ : World.drewN w144 _ = w144; have n0_ : Aside0 (w144.heap[gb393]? = some (.cells #[.int .i64 ((rd_T73 l0 a2).f0), .int .i64 ((rd_T73 l0 a2).f1)] 73 (0, 0))) := ⟨by rw [← hq_]; exact (kp_ BK393)⟩; have n1_ : Aside0 (Below w.heap.size w w144) := ⟨by rw [← hq_]; exact (hb_ HB)⟩; clear BK393 HB hq_; have BK393 := n0_; have HB := n1_; clear n0_ n1_))
  replace BK393 := am_ (blk_drew BK393.out)
  replace HB := am_ (below_drew1 HB.out)
  have p412 : 0 ≤ (0 : Int) := (by omega)
  have q412 : 0 < ((rd_L3 l1 a2).length : Int) := od_
  obtain ⟨ad412, e412, hx412_0⟩ := Kd.at_int HR392_0.out 0 p412 q412
  have hw412_0 := hx412_0
  (try rw [show ((0 : Int)).toNat = 0 from rfl] at hw412_0)
  (try rw [show 0 * 1 = 0 from rfl] at hw412_0)
  (try rw [Addr.add_zero'] at hw412_0)
  cases e412
  have qi412 : (0 < (rd_L3 l1 a2).length) = True := eq_true (by omega)
  (try rw [show ((0 : Int)).toNat = 0 from rfl] at hx412_0)
  (try rw [Addr.add_zero'] at hx412_0)
  replace hx412_0 := hc_ HB hx412_0
  replace p412 := eq_true p412
  replace q412 := eq_true q412
  have p418 : 0 ≤ (1 : Int) := (by omega)
  have q418 : 1 < ((rd_L3 l1 a2).length : Int) := od_
  obtain ⟨ad418, e418, hx418_0⟩ := Kd.at_int HR392_0.out 1 p418 q418
  have hw418_0 := hx418_0
  (try rw [show ((1 : Int)).toNat = 1 from rfl] at hw418_0)
  (try rw [show 1 * 1 = 1 from rfl] at hw418_0)
  (try simp only [Nat.reduceMul, Nat.reduceEqDiff, Go.Addr.add, ↓reduceIte] at hw418_0)
  obtain rfl : ad412 = ad418 := (by injection e418)
  (try simp only [show (1 : Int).toNat = 1 from rfl, Nat.reduceMul, Nat.reduceEqDiff, Go.Addr.add, ↓reduceIte] at hx418_0)
  have qi418 : (1 < (rd_L3 l1 a2).length) = True := eq_true (by omega)
  (try rw [show ((1 : Int)).toNat = 1 from rfl] at hx418_0)
  replace hx418_0 := hc_ HB hx418_0
  replace p418 := eq_true p418
  replace q418 := eq_true q418
  refine start_ (n := 26) (S := fun w' => True) (ds := []) (bb 26 0) (by kernel_rfl) rfl rfl trivial (fun hHeld => ?_); refine with_tabW spec_ruShow.tab5 spec_ruShow.bits5 (fun HT_ HW_ => ?_)
  generalize w144.drew = w145 at BK393 HB hx412_0 hx418_0 hHeld ⊢
  refine pm_ HT_ 0 25 26 1 ?_
  refine pm_ HT_ 1 26 26 3 ?_
  refine pm_ HT_ 2 27 26 7 ?_
  refine pm_ HT_ 5 30 26 39 ?_
  refine pm_ HT_ 9 34 26 551 ?_
  refine pm_ HT_ 16 41 26 66087 ?_
  refine pm_ HT_ 17 42 26 197159 ?_
  refine pm_ HT_ 18 43 26 459303 ?_
  refine pm_ HT_ 21 46 26 2556455 ?_
  refine inv_at [3, 4, 6, 7, 8, 10, 11, 12, 13, 14, 15, 19, 20, 22, 23, 24, 25] (fun a0_ b a w' => ∃ (v415 : Value) (az415 : Addr) (m12_ : Value), a = putSel a0_ b [(3, 28, .pointer (some ad412)), (4, 29, .int .i64 (rd (rd_L3 l1 a2) 0)), (6, 31, .string t413), (7, 32, .string (t413 ++ (⟨#[32]⟩ : ByteArray))), (8, 33, v415), (10, 35, .int .i64 ((rd_T73 l0 a2).f0)), (11, 36, .int .i64 ji114), (12, 37, m12_), (13, 38, .string (rdOf ByteArray.empty y414 (ji114))), (14, 39, .string ((t413 ++ (⟨#[32]⟩ : ByteArray)) ++ (rdOf ByteArray.empty y414 (ji114)))), (15, 40, .string (((t413 ++ (⟨#[32]⟩ : ByteArray)) ++ (rdOf ByteArray.empty y414 (ji114))) ++ (⟨#[32]⟩ : ByteArray))), (19, 44, .pointer (some (ad412.add 1))), (20, 45, .int .i64 (rd (rd_L3 l1 a2) 1)), (22, 47, .int .i64 (wrap64 (t394 + 1))), (23, 48, .string t419), (24, 49, .string ((((t413 ++ (⟨#[32]⟩ : ByteArray)) ++ (rdOf ByteArray.empty y414 (ji114))) ++ (⟨#[32]⟩ : ByteArray)) ++ t419)), (25, 12, .string ((((t413 ++ (⟨#[32]⟩ : ByteArray)) ++ (rdOf ByteArray.empty y414 (ji114))) ++ (⟨#[32]⟩ : ByteArray)) ++ t419))] ∧ (w'.heap[gb393]? = some (.cells #[.int .i64 ((rd_T73 l0 a2).f0), .int .i64 ((rd_T73 l0 a2).f1)] 73 (0, 0))) ∧ (Below w.heap.size w w') ∧ (b 8 = true → Kd.R Kd.string 9 w' w.heap.size (fun _ => True) v415 y414) ∧ (b 8 = true → ∃ c_, (v415 : Value) = .slice (some az415) y414.length c_) ∧ (b 12 = true → (m12_ : Value) = .pointer (some (az415.add ((ji114)).toNat)))) HT_.out HW_.out (by kernel_rfl) (by kernel_rfl) ?_ ?_ ?_
  ·exact ⟨.bool false, ⟨0, 0, none⟩, .bool false, by simp only [putSel, Bool.false_eq_true, if_false], BK393.out, HB.out, fun h_ => absurd h_ (by decide), fun h_ => absurd h_ (by decide), fun h_ => absurd h_ (by decide)⟩
  ·refine ?z15_
   let rec p15_ : type_of% ?z15_ := by(
   skip
   clear BK393 HB
   refine steps_cons ?_ ?_
   ·rintro b a w' ⟨v415, az415, m12_, ha, q2_, q6_, q3_, q1_, q5_⟩ hbq_ hon hoff
    refine ⟨_, rfl, fun K hK => ?_⟩
    have e27 : a.tmps[27]? = some (.slice (some ad412) (rd_L3 l1 a2).length c392_0) := pq_ ha rfl rfl
    replace ha := am_ ha
    have HB := am_ q6_
    have hs0_ := hcl_ HB hw412_0
    refine value_ (w1 := w') (v := .pointer (some ad412)) (by rfl) rfl ?_ ?_
    ·go_simp
     (try simp only [i64_w])
     try rfl
    refine hK.out _ _ ⟨v415, az415, m12_, (pu_ ha 0 hbq_ rfl rfl rfl), q2_, q6_, q3_, q1_, q5_⟩
   refine steps_cons ?_ ?_
   ·rintro b a w' ⟨v415, az415, m12_, ha, q2_, q6_, q3_, q1_, q5_⟩ hbq_ hon hoff
    refine ⟨_, rfl, fun K hK => ?_⟩
    have e28 := po_ ha 0 3 28 (.pointer (some ad412)) rfl rfl (hon 3 (by kernel_rfl)) rfl
    replace ha := am_ ha
    have HB := am_ q6_
    have hs0_ := hcl_ HB hw412_0
    refine value_ (w1 := w') (v := .int .i64 (rd (rd_L3 l1 a2) 0)) (by rfl) rfl ?_ ?_
    ·go_simp
     (try simp only [i64_w])
     try rfl
    refine hK.out _ _ ⟨v415, az415, m12_, (pu_ ha 1 hbq_ rfl rfl rfl), q2_, q6_, q3_, q1_, q5_⟩
   refine steps_cons ?_ ?_
   ·rintro b a w' ⟨v415, az415, m12_, ha, q2_, q6_, q3_, q1_, q5_⟩ hbq_ hon hoff
    refine ⟨_, rfl, fun K hK => ?_⟩
    have e25 : a.tmps[25]? = some (.slice (some ad391) l0.length c0) := pq_ ha rfl rfl
    have e26 : a.tmps[26]? = some (.slice (some ad392) l1.length c1) := pq_ ha rfl rfl
    have e29 := po_ ha 1 4 29 (.int .i64 (rd (rd_L3 l1 a2) 0)) rfl rfl (hon 4 (by kernel_rfl)) rfl
    have e30 : a.tmps[30]? = some (.int .i64 t394) := pq_ ha rfl rfl
    replace ha := am_ ha
    have BK393 := am_ q2_
    have HB := am_ q6_
    refine goes_ Tryz.func47 (by kernel_rfl) rfl #[.slice (some ad391) l0.length c0, .slice (some ad392) l1.length c1, .int .i64 (rd (rd_L3 l1 a2) 0), .int .i64 t394] (by rfl) rfl rfl (by simp only [List.map_toArray, List.map_cons, List.map_nil, Act.eval, Array.getD_eq_getD_getElem?, Option.getD_some, e25, e26, e29, e30] <;> rfl) ?_
    with_reducible refine (ih k (by omega) _ _ l0 _ _ l1 (rd (rd_L3 l1 a2) 0) t394 t413 _ ?side1 ?side2 ?side3 ?side4 A112.out).mono ?_
    (case side1 => exact Kd.C_w HR0 HB)
    (case side2 => exact HC0.out)
    (case side3 => exact Kd.C_w HR1 HB)
    (case side4 => exact HC1.out)
    rintro e w146 ⟨rfl, hb⟩
    refine ⟨_, rfl, ?_⟩
    have n0_ := am_ (blk_below (kp_ BK393) hb)
    have n1_ := am_ (below_step (hb_ HB) hb)
    have z_HO416 := fun (h0_ : b 8 = true) => (show Kd.R Kd.string 9 w146 w.heap.size (fun _ => True) v415 y414 from by first | exact (Kd.R_below (Kd.R_pp ((q3_ h0_))) hb) | exact Kd.R_mono (Kd.R_below (Kd.R_pp ((q3_ h0_))) hb) (fun _ h_ => by first | trivial | exact h_ | exact h_.1))
    clear BK393
    clear HB
    have BK393 := n0_
    have HB := n1_
    clear n0_ n1_
    refine hK.out _ _ ⟨v415, az415, m12_, (pu_ ha 2 hbq_ rfl rfl rfl), (kp_ BK393), (hb_ HB), z_HO416, q1_, q5_⟩
   refine steps_cons ?_ ?_
   ·rintro b a w' ⟨v415, az415, m12_, ha, q2_, q6_, q3_, q1_, q5_⟩ hbq_ hon hoff
    refine ⟨_, rfl, fun K hK => ?_⟩
    have e31 := po_ ha 2 6 31 (.string t413) rfl rfl (hon 6 (by kernel_rfl)) rfl
    replace ha := am_ ha
    refine value_ (w1 := w') (v := .string (t413 ++ (⟨#[32]⟩ : ByteArray))) (by rfl) rfl ?_ ?_
    ·go_simp
     (try simp only [i64_w])
     try rfl
    refine hK.out _ _ ⟨v415, az415, m12_, (pu_ ha 3 hbq_ rfl rfl rfl), q2_, q6_, q3_, q1_, q5_⟩
   refine steps_cons ?_ ?_
   ·rintro b a w' ⟨v415, az415, m12_, ha, q2_, q6_, q3_, q1_, q5_⟩ hbq_ hon hoff
    refine ⟨_, rfl, fun K hK => ?_⟩
    replace ha := am_ ha
    have BK393 := am_ q2_
    have HB := am_ q6_
    refine Kd.R_lit_step Kd.string _ 9 ?hg (N := 33) ?hd (xs := ([⟨#[43]⟩, ⟨#[45]⟩, ⟨#[42]⟩, ⟨#[47]⟩] : List ByteArray)) (inner := [.string ⟨#[43]⟩, .string ⟨#[45]⟩, .string ⟨#[42]⟩, .string ⟨#[47]⟩]) (ok := fun _ => True) (okp := fun _ => True) ?hr ?hp (fun _ hk => hk) trivial (Below.refl _ _) (Nat.le_refl _) (by simp) ?_; (case hd => rfl); (case hg => rfl); (case hr => first | (go_simp; done) | (go_simp; rfl)); (case hp => exact (Reps.one (show Kd.M Kd.string _ _ _ (⟨#[43]⟩ : ByteArray) [.string ⟨#[43]⟩] from rfl) (Reps.one (show Kd.M Kd.string _ _ _ (⟨#[45]⟩ : ByteArray) [.string ⟨#[45]⟩] from rfl) (Reps.one (show Kd.M Kd.string _ _ _ (⟨#[42]⟩ : ByteArray) [.string ⟨#[42]⟩] from rfl) (Reps.one (show Kd.M Kd.string _ _ _ (⟨#[47]⟩ : ByteArray) [.string ⟨#[47]⟩] from rfl) (Reps.none _ _))))))
    intro v415 w146 ho147 hb hg_ hnew_
    clear hg_ hnew_
    (first | rw [← Ny414.out] at ho147 | (simp only [Int.reduceToNat] at ho147; rw [← Ny414.out] at ho147))
    have HO416 := am_ (Kd.R_lower ho147 (below_size (hb_ HB)))
    replace BK393 := am_ (blk_below (kp_ BK393) hb)
    replace HB := am_ (below_step (hb_ HB) hb)
    clear hb ho147
    obtain ⟨Ao148, co148, eo148⟩ := Kd.R_slice HO416.out
    subst eo148
    obtain ⟨ado148, fo148, _⟩ := Kd.at_string (Kd.R_reads' HO416.out).2.2 0 (by decide) (by rw [Ny414.out]; simp)
    cases fo148
    refine hK.out _ _ ⟨.slice (some ado148) y414.length co148, ado148, m12_, (pu_ ha 4 hbq_ rfl rfl rfl), (kp_ BK393), (hb_ HB), fun _ => (Kd.R_p HO416), fun _ => ⟨_, rfl⟩, fun h0_ => absurd ((hoff 12 (by kernel_rfl)).symm.trans h0_) (by decide)⟩
   refine steps_cons ?_ ?_
   ·rintro b a w' ⟨v415, az415, m12_, ha, q2_, q6_, q3_, q1_, q5_⟩ hbq_ hon hoff
    refine ⟨_, rfl, fun K hK => ?_⟩
    have e34 : a.tmps[34]? = some (.pointer (some ⟨gb393, 0, none⟩)) := pq_ ha rfl rfl
    replace ha := am_ ha
    have BK393 := am_ q2_
    have hc0_ : w'.cell? ⟨gb393, 0, none⟩ = some (.int .i64 ((rd_T73 l0 a2).f0)) := (blk_cell BK393.out 0).trans rfl
    have hc1_ : w'.cell? ⟨gb393, 1, none⟩ = some (.int .i64 ((rd_T73 l0 a2).f1)) := (blk_cell BK393.out 1).trans rfl
    refine value_ (w1 := w') (v := .int .i64 ((rd_T73 l0 a2).f0)) (by rfl) rfl ?_ ?_
    ·go_simp
     (try simp only [i64_w])
     try rfl
    refine hK.out _ _ ⟨v415, az415, m12_, (pu_ ha 5 hbq_ rfl rfl rfl), q2_, q6_, q3_, q1_, fun h0_ => absurd ((hoff 12 (by kernel_rfl)).symm.trans h0_) (by decide)⟩
   refine steps_cons ?_ ?_
   ·rintro b a w' ⟨v415, az415, m12_, ha, q2_, q6_, q3_, q1_, q5_⟩ hbq_ hon hoff
    refine ⟨_, rfl, fun K hK => ?_⟩
    have e35 := po_ ha 5 10 35 (.int .i64 ((rd_T73 l0 a2).f0)) rfl rfl (hon 10 (by kernel_rfl)) rfl
    replace ha := am_ ha
    refine value_ (w1 := w') (v := .int .i64 ji114) (by rfl) rfl ?_ ?_
    ·go_simp
     (try simp only [i64_w])
     try rfl
    refine hK.out _ _ ⟨v415, az415, m12_, (pu_ ha 6 hbq_ rfl rfl rfl), q2_, q6_, q3_, q1_, fun h0_ => absurd ((hoff 12 (by kernel_rfl)).symm.trans h0_) (by decide)⟩
   refine steps_cons ?_ ?_
   ·rintro b a w' ⟨v415, az415, m12_, ha, q2_, q6_, q3_, q1_, q5_⟩ hbq_ hon hoff
    refine ⟨_, rfl, fun K hK => ?_⟩
    have e33 := po_ ha 4 8 33 (v415) rfl rfl (hon 8 (by kernel_rfl)) rfl
    have e36 := po_ ha 6 11 36 (.int .i64 ji114) rfl rfl (hon 11 (by kernel_rfl)) rfl
    replace ha := am_ ha
    have HO416 := am_ (q3_ (hon 8 (by kernel_rfl)))
    have HA_HO416 := am_ (q1_ (hon 8 (by kernel_rfl)))
    obtain ⟨c_, hv_⟩ := HA_HO416.out
    rw [hv_] at e33
    refine value_ (w1 := w') (v := .pointer (some (az415.add ((ji114)).toNat))) (by rfl) rfl ?_ ?_
    ·go_simp
     (try simp only [i64_w])
     try rfl
    refine hK.out _ _ ⟨v415, az415, (.pointer (some (az415.add ((ji114)).toNat))), (pu_ ha 7 hbq_ rfl rfl rfl), q2_, q6_, q3_, q1_, fun _ => rfl⟩
   refine steps_cons ?_ ?_
   ·rintro b a w' ⟨v415, az415, m12_, ha, q2_, q6_, q3_, q1_, q5_⟩ hbq_ hon hoff
    refine ⟨_, rfl, fun K hK => ?_⟩
    have e37 := po_ ha 7 12 37 (m12_) rfl rfl (hon 12 (by kernel_rfl)) rfl
    rw [q5_ (hon 12 (by kernel_rfl))] at e37
    replace ha := am_ ha
    have HO416 := am_ (q3_ (hon 8 (by kernel_rfl)))
    have HA_HO416 := am_ (q1_ (hon 8 (by kernel_rfl)))
    obtain ⟨c_, hv_⟩ := HA_HO416.out
    have hF_ := HO416.out
    rw [hv_] at hF_
    obtain ⟨ad_, ea_, hx_⟩ := Kd.at_string (Kd.R_reads' hF_).2.2 (ji114) (of_eq_true pi417) (of_eq_true qi417)
    cases ea_
    refine value_ (w1 := w') (v := .string (rdOf ByteArray.empty y414 (ji114))) (by rfl) rfl ?_ ?_
    ·go_simp
     (try simp only [i64_w])
     try rfl
    refine hK.out _ _ ⟨v415, az415, m12_, (pu_ ha 8 hbq_ rfl rfl rfl), q2_, q6_, q3_, q1_, q5_⟩
   refine steps_cons ?_ ?_
   ·rintro b a w' ⟨v415, az415, m12_, ha, q2_, q6_, q3_, q1_, q5_⟩ hbq_ hon hoff
    refine ⟨_, rfl, fun K hK => ?_⟩
    have e32 := po_ ha 3 7 32 (.string (t413 ++ (⟨#[32]⟩ : ByteArray))) rfl rfl (hon 7 (by kernel_rfl)) rfl
    have e38 := po_ ha 8 13 38 (.string (rdOf ByteArray.empty y414 (ji114))) rfl rfl (hon 13 (by kernel_rfl)) rfl
    replace ha := am_ ha
    have HO416 := am_ (q3_ (hon 8 (by kernel_rfl)))
    have HA_HO416 := am_ (q1_ (hon 8 (by kernel_rfl)))
    refine value_ (w1 := w') (v := .string ((t413 ++ (⟨#[32]⟩ : ByteArray)) ++ (rdOf ByteArray.empty y414 (ji114)))) (by rfl) rfl ?_ ?_
    ·go_simp
     (try simp only [i64_w])
     try rfl
    refine hK.out _ _ ⟨v415, az415, m12_, (pu_ ha 9 hbq_ rfl rfl rfl), q2_, q6_, q3_, q1_, q5_⟩
   refine steps_cons ?_ ?_
   ·rintro b a w' ⟨v415, az415, m12_, ha, q2_, q6_, q3_, q1_, q5_⟩ hbq_ hon hoff
    refine ⟨_, rfl, fun K hK => ?_⟩
    have e39 := po_ ha 9 14 39 (.string ((t413 ++ (⟨#[32]⟩ : ByteArray)) ++ (rdOf ByteArray.empty y414 (ji114)))) rfl rfl (hon 14 (by kernel_rfl)) rfl
    replace ha := am_ ha
    have HO416 := am_ (q3_ (hon 8 (by kernel_rfl)))
    have HA_HO416 := am_ (q1_ (hon 8 (by kernel_rfl)))
    refine value_ (w1 := w') (v := .string (((t413 ++ (⟨#[32]⟩ : ByteArray)) ++ (rdOf ByteArray.empty y414 (ji114))) ++ (⟨#[32]⟩ : ByteArray))) (by rfl) rfl ?_ ?_
    ·go_simp
     (try simp only [i64_w])
     try rfl
    refine hK.out _ _ ⟨v415, az415, m12_, (pu_ ha 10 hbq_ rfl rfl rfl), q2_, q6_, q3_, q1_, q5_⟩
   refine steps_cons ?_ ?_
   ·rintro b a w' ⟨v415, az415, m12_, ha, q2_, q6_, q3_, q1_, q5_⟩ hbq_ hon hoff
    refine ⟨_, rfl, fun K hK => ?_⟩
    have e43 : a.tmps[43]? = some (.slice (some ad412) (rd_L3 l1 a2).length c392_0) := pq_ ha rfl rfl
    replace ha := am_ ha
    have HB := am_ q6_
    have hs1_ := hcl_ HB hw418_0
    refine value_ (w1 := w') (v := .pointer (some (ad412.add 1))) (by rfl) rfl ?_ ?_
    ·go_simp
     (try simp only [i64_w])
     try rfl
    refine hK.out _ _ ⟨v415, az415, m12_, (pu_ ha 11 hbq_ rfl rfl rfl), q2_, q6_, q3_, q1_, q5_⟩
   refine steps_cons ?_ ?_
   ·rintro b a w' ⟨v415, az415, m12_, ha, q2_, q6_, q3_, q1_, q5_⟩ hbq_ hon hoff
    refine ⟨_, rfl, fun K hK => ?_⟩
    have e44 := po_ ha 11 19 44 (.pointer (some (ad412.add 1))) rfl rfl (hon 19 (by kernel_rfl)) rfl
    replace ha := am_ ha
    have HB := am_ q6_
    have hs1_ := hcl_ HB hw418_0
    refine value_ (w1 := w') (v := .int .i64 (rd (rd_L3 l1 a2) 1)) (by rfl) rfl ?_ ?_
    ·go_simp
     (try simp only [i64_w])
     try rfl
    refine hK.out _ _ ⟨v415, az415, m12_, (pu_ ha 12 hbq_ rfl rfl rfl), q2_, q6_, q3_, q1_, q5_⟩
   refine steps_cons ?_ ?_
   ·rintro b a w' ⟨v415, az415, m12_, ha, q2_, q6_, q3_, q1_, q5_⟩ hbq_ hon hoff
    refine ⟨_, rfl, fun K hK => ?_⟩
    have e46 : a.tmps[46]? = some (.int .i64 t394) := pq_ ha rfl rfl
    replace ha := am_ ha
    refine value_ (w1 := w') (v := .int .i64 (wrap64 (t394 + 1))) (by rfl) rfl ?_ ?_
    ·go_simp
     (try simp only [i64_w])
     try rfl
    refine hK.out _ _ ⟨v415, az415, m12_, (pu_ ha 13 hbq_ rfl rfl rfl), q2_, q6_, q3_, q1_, q5_⟩
   refine steps_cons ?_ ?_
   ·rintro b a w' ⟨v415, az415, m12_, ha, q2_, q6_, q3_, q1_, q5_⟩ hbq_ hon hoff
    refine ⟨_, rfl, fun K hK => ?_⟩
    have e41 : a.tmps[41]? = some (.slice (some ad391) l0.length c0) := pq_ ha rfl rfl
    have e42 : a.tmps[42]? = some (.slice (some ad392) l1.length c1) := pq_ ha rfl rfl
    have e45 := po_ ha 12 20 45 (.int .i64 (rd (rd_L3 l1 a2) 1)) rfl rfl (hon 20 (by kernel_rfl)) rfl
    have e47 := po_ ha 13 22 47 (.int .i64 (wrap64 (t394 + 1))) rfl rfl (hon 22 (by kernel_rfl)) rfl
    replace ha := am_ ha
    have BK393 := am_ q2_
    have HB := am_ q6_
    refine goes_ Tryz.func47 (by kernel_rfl) rfl #[.slice (some ad391) l0.length c0, .slice (some ad392) l1.length c1, .int .i64 (rd (rd_L3 l1 a2) 1), .int .i64 (wrap64 (t394 + 1))] (by rfl) rfl rfl (by simp only [List.map_toArray, List.map_cons, List.map_nil, Act.eval, Array.getD_eq_getD_getElem?, Option.getD_some, e41, e42, e45, e47] <;> rfl) ?_
    with_reducible refine (ih k (by omega) _ _ l0 _ _ l1 (rd (rd_L3 l1 a2) 1) (wrap64 (t394 + 1)) t419 _ ?side1 ?side2 ?side3 ?side4 A120.out).mono ?_
    (case side1 => exact Kd.C_w HR0 HB)
    (case side2 => exact HC0.out)
    (case side3 => exact Kd.C_w HR1 HB)
    (case side4 => exact HC1.out)
    rintro e w148 ⟨rfl, hb⟩
    refine ⟨_, rfl, ?_⟩
    have n0_ := am_ (blk_below (kp_ BK393) hb)
    have n1_ := am_ (below_step (hb_ HB) hb)
    have z_HO416 := fun (h0_ : b 8 = true) => (show Kd.R Kd.string 9 w148 w.heap.size (fun _ => True) v415 y414 from by first | exact (Kd.R_below (Kd.R_pp ((q3_ h0_))) hb) | exact Kd.R_mono (Kd.R_below (Kd.R_pp ((q3_ h0_))) hb) (fun _ h_ => by first | trivial | exact h_ | exact h_.1))
    clear BK393
    clear HB
    have BK393 := n0_
    have HB := n1_
    clear n0_ n1_
    refine hK.out _ _ ⟨v415, az415, m12_, (pu_ ha 14 hbq_ rfl rfl rfl), (kp_ BK393), (hb_ HB), z_HO416, q1_, q5_⟩
   refine steps_cons ?_ ?_
   ·rintro b a w' ⟨v415, az415, m12_, ha, q2_, q6_, q3_, q1_, q5_⟩ hbq_ hon hoff
    refine ⟨_, rfl, fun K hK => ?_⟩
    have e40 := po_ ha 10 15 40 (.string (((t413 ++ (⟨#[32]⟩ : ByteArray)) ++ (rdOf ByteArray.empty y414 (ji114))) ++ (⟨#[32]⟩ : ByteArray))) rfl rfl (hon 15 (by kernel_rfl)) rfl
    have e48 := po_ ha 14 23 48 (.string t419) rfl rfl (hon 23 (by kernel_rfl)) rfl
    replace ha := am_ ha
    have HO416 := am_ (q3_ (hon 8 (by kernel_rfl)))
    have HA_HO416 := am_ (q1_ (hon 8 (by kernel_rfl)))
    refine value_ (w1 := w') (v := .string ((((t413 ++ (⟨#[32]⟩ : ByteArray)) ++ (rdOf ByteArray.empty y414 (ji114))) ++ (⟨#[32]⟩ : ByteArray)) ++ t419)) (by rfl) rfl ?_ ?_
    ·go_simp
     (try simp only [i64_w])
     try rfl
    refine hK.out _ _ ⟨v415, az415, m12_, (pu_ ha 15 hbq_ rfl rfl rfl), q2_, q6_, q3_, q1_, q5_⟩
   refine steps_cons ?_ ?_
   ·rintro b a w' ⟨v415, az415, m12_, ha, q2_, q6_, q3_, q1_, q5_⟩ hbq_ hon hoff
    refine ⟨_, rfl, fun K hK => ?_⟩
    have e49 := po_ ha 15 24 49 (.string ((((t413 ++ (⟨#[32]⟩ : ByteArray)) ++ (rdOf ByteArray.empty y414 (ji114))) ++ (⟨#[32]⟩ : ByteArray)) ++ t419)) rfl rfl (hon 24 (by kernel_rfl)) rfl
    replace ha := am_ ha
    have HO416 := am_ (q3_ (hon 8 (by kernel_rfl)))
    have HA_HO416 := am_ (q1_ (hon 8 (by kernel_rfl)))
    refine value_ (w1 := w') (v := .string ((((t413 ++ (⟨#[32]⟩ : ByteArray)) ++ (rdOf ByteArray.empty y414 (ji114))) ++ (⟨#[32]⟩ : ByteArray)) ++ t419)) (by rfl) rfl ?_ ?_
    ·go_simp
     (try simp only [i64_w])
     try rfl
    refine hK.out _ _ ⟨v415, az415, m12_, (pu_ ha 16 hbq_ rfl rfl rfl), q2_, q6_, q3_, q1_, q5_⟩
   exact steps_nil
   )
   exact p15_
  rintro b a w151 hall ⟨v415, az415, m12_, ha, q2_, q6_, q3_, q1_, q5_⟩
  clear BK393 HB
  have hb3_ := hall 3 (by kernel_rfl)
  have hb4_ := hall 4 (by kernel_rfl)
  have hb6_ := hall 6 (by kernel_rfl)
  have hb7_ := hall 7 (by kernel_rfl)
  have hb8_ := hall 8 (by kernel_rfl)
  have hb10_ := hall 10 (by kernel_rfl)
  have hb11_ := hall 11 (by kernel_rfl)
  have hb12_ := hall 12 (by kernel_rfl)
  have hb13_ := hall 13 (by kernel_rfl)
  have hb14_ := hall 14 (by kernel_rfl)
  have hb15_ := hall 15 (by kernel_rfl)
  have hb19_ := hall 19 (by kernel_rfl)
  have hb20_ := hall 20 (by kernel_rfl)
  have hb22_ := hall 22 (by kernel_rfl)
  have hb23_ := hall 23 (by kernel_rfl)
  have hb24_ := hall 24 (by kernel_rfl)
  have hb25_ := hall 25 (by kernel_rfl)
  subst ha
  obtain rfl := q5_ hb12_
  simp only [putSel, hb3_, hb4_, hb6_, hb7_, hb8_, hb10_, hb11_, hb12_, hb13_, hb14_, hb15_, hb19_, hb20_, hb22_, hb23_, hb24_, hb25_, if_true, Act.put, List.setIfInBounds_toArray, List.set_cons_zero, List.set_cons_succ]
  have BK393 := am_ q2_
  clear q2_
  have HB := am_ q6_
  clear q6_
  have HO416 := am_ (q3_ hb8_)
  clear q3_
  have HA_HO416 := am_ (q1_ hb8_)
  clear q1_
  clear hall hb3_ hb4_ hb6_ hb7_ hb8_ hb10_ hb11_ hb12_ hb13_ hb14_ hb15_ hb19_ hb20_ hb22_ hb23_ hb24_ hb25_
  obtain ⟨co152, eo152⟩ := HA_HO416.out
  clear HA_HO416
  subst eo152
  try go_wp2
  go_ret
  exact ⟨by first | rfl | (simp [errW_none, errW_some] <;> rfl) | (simp only [← hji114]; first | rfl | (simp [errW_none, errW_some] <;> rfl)) | (simp [*, errW_none, errW_some] <;> rfl), hb_ HB⟩
  )
  exact p14_
 ·rw [if_neg c115] at H
  exact absurd H (by simp)
 )
 exact p11_

end Go.Proofs.YtihjlepgmppedaaGreatDoor.PFnRules
