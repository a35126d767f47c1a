-- Laid for this claim by wip/tools/print2.sh, a changed copy of the kit's print (wip/tools/patch_print.py): not by print.sh. Changed by wip/fix/strsize.py. Changed by wip/fix/loopput.py.
import Derived.Test.YtihjlepgmppedaaGreatDoorPFnRulesx12
import Derived.Test.YtihjlepgmppedaaGreatDoorVFnRules
namespace Go.Proofs.YtihjlepgmppedaaGreatDoor.PFnRules
set_option maxHeartbeats 8000000
set_option maxRecDepth 100000
open Go.RowKit Go.Proofs.YtihjlepgmppedaaGreatDoorW.PrintWords Go.Proofs.YtihjlepgmppedaaGreatDoorW.PrintLast Go.Proofs.YtihjlepgmppedaaGreatDoorW.PrintMore
set_option linter.unusedVariables false
set_option linter.unusedSimpArgs false

/-! ### spec_ruText: function 27 -/
def spec_ruText.f (k : Nat) (l0 : List (S73)) : Option (ByteArray) := (spec_ruTree.f k l0).bind fun bt420 => ((spec_ruShow.f k l0 bt420.1 (wrap64 ((l0.length : Int) - 1)) 0).bind fun t424 => (some t424))
theorem spec_ruText.calls (k : Nat) (A0 : Option Addr) (c0 : Nat) (l0 : List (S73)) (r : ByteArray) (w : World) (hr0 : Kd.C k73 w A0 l0.length l0) (hc0 : l0.length ≤ c0) (h : spec_ruText.f k l0 = some r) :
  Calls Tryz.prog 27 #[.slice A0 l0.length c0] w fun e w' => e = .returned (.string r) ∧ Below w.heap.size w w' := by
 have HR0 := am_ hr0
 have HC0 := am_ hc0
 clear hr0 hc0
 have HB := am_ (Below.refl w.heap.size w)
 have H := h
 unfold spec_ruText.f at H
 clear h
 revert H; refine bn_ ?_; rintro ⟨t420, t421⟩ A2 H; try dsimp only at H
 revert H; refine bn_ ?_; rintro t424 A3 H; try dsimp only at H
 obtain rfl := Option.some.inj H
 go_enter Tryz.func27, Tryz.ntmps27
 go_wp2_with (first | ((with_reducible refine gk_ 39 ?_); refine gq_ 7 Tryz.func39 #[.slice A0 l0.length c0] ?_; (with_reducible refine (spec_ruTree.calls k _ _ l0 t420 t421 _ ?side1 ?_ A2.out).mono ?_); (case side1 => repeat (first | exact HR0.out | (with_reducible refine Kd.C_alloc ?_ _) | (with_reducible refine Kd.C_drewN ?_ _) | (with_reducible refine Kd.C_drew ?_))); exact HC0.out; rintro e w4 ⟨v422, rfl, ho0, hb⟩; refine ⟨_, rfl, ?_⟩; have HO423 := am_ (Kd.S_lower ho0 (below_size (hb_ HB))); replace HB := hbs_ HB hb; obtain ⟨Ao5, co5, eo5⟩ := Kd.S_slice HO423.out; subst eo5) | ((with_reducible refine gk_ 47 ?_); refine gq_ 15 Tryz.func47 #[.slice A0 l0.length c0, .slice Ao5 t420.length co5, .int .i64 (wrap64 ((l0.length : Int) - 1)), .int .i64 0] ?_; (with_reducible refine (spec_ruShow.calls k _ _ l0 _ _ t420 (wrap64 ((l0.length : Int) - 1)) 0 t424 _ ?_ ?_ ?side3 ?_ A3.out).mono ?_); exact Kd.C_w HR0 HB; exact HC0.out; (case side3 => repeat (first | exact (Kd.S_reads' HO423.out).2.2 | (with_reducible refine Kd.C_alloc ?_ _) | (with_reducible refine Kd.C_drewN ?_ _) | (with_reducible refine Kd.C_drew ?_))); exact (Kd.S_reads' HO423.out).2.1; rintro e w6 ⟨rfl, hb⟩; refine ⟨_, rfl, ?_⟩; replace HO423 := am_ (Kd.S_below (by (with_reducible repeat (first | apply Kd.S_alloc | apply Kd.S_drewN | apply Kd.S_drew)); exact HO423.out) hb); replace HB := hbs_ HB hb))
 go_ret
 exact ad_ (hb_ HB)

/-! ### spec_RuleText: function 6 -/
def spec_RuleText.f (k : Nat) (l0 : List (S73)) : Option (ByteArray × Bool) := (spec_ruGood.f k l0).bind fun t425 => (if t425 = true then ((spec_ruText.f k l0).bind fun t426 => (some (t426, true))) else (some ((⟨#[]⟩ : ByteArray), false)))
theorem spec_RuleText.calls (k : Nat) (A0 : Option Addr) (c0 : Nat) (l0 : List (S73)) (r1 : ByteArray) (r2 : Bool) (w : World) (hr0 : Kd.C k73 w A0 l0.length l0) (hc0 : l0.length ≤ c0) (h : spec_RuleText.f k l0 = some (r1, r2)) :
  Calls Tryz.prog 6 #[.slice A0 l0.length c0] w fun e w' => e = .returned (.tuple #[.string r1, .bool r2]) ∧ Below w.heap.size w w' := by
 have HR0 := am_ hr0
 have HC0 := am_ hc0
 clear hr0 hc0
 have HB := am_ (Below.refl w.heap.size w)
 have H := h
 unfold spec_RuleText.f at H
 clear h
 revert H; refine bn_ ?_; rintro t425 A2 H; try dsimp only at H
 by_cases c3 : t425 = true
 ·subst c3
  rw [if_pos rfl] at H
  revert H; refine bn_ ?_; rintro t426 A4 H; try dsimp only at H
  simp only [Option.some.injEq, Prod.mk.injEq] at H
  obtain ⟨rfl, rfl⟩ := H
  go_enter Tryz.func6, Tryz.ntmps6
  go_wp2_with (first | ((with_reducible refine gk_ 26 ?_); refine gq_ 5 Tryz.func26 #[.slice A0 l0.length c0] ?_; (with_reducible refine (spec_ruGood.calls k _ _ l0 true _ ?side1 ?_ A2.out).mono ?_); (case side1 => repeat (first | exact HR0.out | (with_reducible refine Kd.C_alloc ?_ _) | (with_reducible refine Kd.C_drewN ?_ _) | (with_reducible refine Kd.C_drew ?_))); exact HC0.out; rintro e w5 ⟨rfl, hb⟩; refine ⟨_, rfl, ?_⟩; replace HB := hbs_ HB hb) | ((with_reducible refine gk_ 27 ?_); refine gq_ 8 Tryz.func27 #[.slice A0 l0.length c0] ?_; (with_reducible refine (spec_ruText.calls k _ _ l0 t426 _ ?_ ?_ A4.out).mono ?_); exact Kd.C_w HR0 HB; exact HC0.out; rintro e w6 ⟨rfl, hb⟩; refine ⟨_, rfl, ?_⟩; replace HB := hbs_ HB hb))
  go_ret2
  exact ad_ (hb_ HB)
 replace c3 := Bool.eq_false_iff.mpr c3
 subst c3
 rw [if_neg (show ¬ (false = true) by decide)] at H
 simp only [Option.some.injEq, Prod.mk.injEq] at H
 obtain ⟨rfl, rfl⟩ := H
 go_enter Tryz.func6, Tryz.ntmps6
 go_wp2_with (first | ((with_reducible refine gk_ 26 ?_); refine gq_ 5 Tryz.func26 #[.slice A0 l0.length c0] ?_; (with_reducible refine (spec_ruGood.calls k _ _ l0 false _ ?side1 ?_ A2.out).mono ?_); (case side1 => repeat (first | exact HR0.out | (with_reducible refine Kd.C_alloc ?_ _) | (with_reducible refine Kd.C_drewN ?_ _) | (with_reducible refine Kd.C_drew ?_))); exact HC0.out; rintro e w7 ⟨rfl, hb⟩; refine ⟨_, rfl, ?_⟩; replace HB := hbs_ HB hb))
 go_ret2
 exact ad_ (hb_ HB)

/-! ### spec_l1Cur_spoilt: function 30 -/
mutual
def spec_l1Cur_spoilt.l0 : Nat → ByteArray → ByteArray → Int → List Int → Int → Int → Option (ByteArray × Int × Int)
 | 0, _, _, _, _, _, _ => none
 | k + 1, x1, x2, x7, x1000, x1001, x1002 => if x7 > 0 then (spec_l1Cur_spoilt.j1 k x1 x2 x7 (decide ((x1.size : Int) > 0)) x1000 x1001 x1002) else (spec_l1Cur_spoilt.j1 k x1 x2 x7 false x1000 x1001 x1002)
def spec_l1Cur_spoilt.j1 : Nat → ByteArray → ByteArray → Int → Bool → List Int → Int → Int → Option (ByteArray × Int × Int)
 | 0, _, _, _, _, _, _, _ => none
 | k + 1, x1, x2, x7, x19, x1000, x1001, x1002 => if x19 = true then ((spec_l1Cur_pick.f x1000 x1001 x1002 (x1.size : Int)).bind fun bt430 => ((spec_l1Cur_pick.f x1000 bt430.2.1 bt430.2.2 (x2.size : Int)).bind fun bt433 => (if 0 ≤ bt433.1 then (if bt433.1 < (x2.size : Int) then ((some (([bt x2 bt433.1] : List Int) : List Int)).bind fun y436 => ((spec_l1Cur_pick.f x1000 bt433.2.1 bt433.2.2 3).bind fun bt439 => (if bt439.1 = 0 then (if 0 ≤ bt430.1 then (if bt430.1 ≤ (x1.size : Int) then (if (x1.extract 0 (bt430.1 : Int).toNat).size + (strOfNums y436).size ≤ 9223372036854775807 then (if ((x1.extract 0 (bt430.1 : Int).toNat) ++ (strOfNums y436)).size + (x1.extract (bt430.1 : Int).toNat x1.size).size ≤ 9223372036854775807 then (spec_l1Cur_spoilt.l0 k (((x1.extract 0 (bt430.1 : Int).toNat) ++ (strOfNums y436)) ++ (x1.extract (bt430.1 : Int).toNat x1.size)) x2 (wrap64 (x7 - 1)) x1000 bt439.2.1 bt439.2.2) else (none)) else (none)) else (none)) else (none)) else (if bt439.1 = 1 then (if 0 ≤ bt430.1 then (if bt430.1 ≤ (x1.size : Int) then (if (x1.extract 0 (bt430.1 : Int).toNat).size + (strOfNums y436).size ≤ 9223372036854775807 then (if 0 ≤ (wrap64 (bt430.1 + 1)) then (if (wrap64 (bt430.1 + 1)) ≤ (x1.size : Int) then (if ((x1.extract 0 (bt430.1 : Int).toNat) ++ (strOfNums y436)).size + (x1.extract ((wrap64 (bt430.1 + 1)) : Int).toNat x1.size).size ≤ 9223372036854775807 then (spec_l1Cur_spoilt.l0 k (((x1.extract 0 (bt430.1 : Int).toNat) ++ (strOfNums y436)) ++ (x1.extract ((wrap64 (bt430.1 + 1)) : Int).toNat x1.size)) x2 (wrap64 (x7 - 1)) x1000 bt439.2.1 bt439.2.2) else (none)) else (none)) else (none)) else (none)) else (none)) else (none)) else (if 0 ≤ bt430.1 then (if bt430.1 ≤ (x1.size : Int) then (if 0 ≤ (wrap64 (bt430.1 + 1)) then (if (wrap64 (bt430.1 + 1)) ≤ (x1.size : Int) then (if (x1.extract 0 (bt430.1 : Int).toNat).size + (x1.extract ((wrap64 (bt430.1 + 1)) : Int).toNat x1.size).size ≤ 9223372036854775807 then (spec_l1Cur_spoilt.l0 k ((x1.extract 0 (bt430.1 : Int).toNat) ++ (x1.extract ((wrap64 (bt430.1 + 1)) : Int).toNat x1.size)) x2 (wrap64 (x7 - 1)) x1000 bt439.2.1 bt439.2.2) else (none)) else (none)) else (none)) else (none)) else (none)))))) else (none)) else (none)))) else (some (x1, x1001, x1002))
end
def spec_l1Cur_spoilt.f (k : Nat) (s0_0 : List Int) (s0_1 : Int) (s0_2 : Int) (a1 : ByteArray) (a2 : ByteArray) : Option (ByteArray × Int × Int) := (spec_l1Cur_pick.f s0_0 s0_1 s0_2 2).bind fun bt427 => (spec_l1Cur_spoilt.l0 k a1 a2 (wrap64 (1 + bt427.1)) s0_0 bt427.2.1 bt427.2.2)
theorem spec_l1Cur_spoilt.calls (k : Nat) (g : Nat) (s0_0 : List Int) (s0_1 : Int) (s0_2 : Int) (a1 : ByteArray) (a2 : ByteArray) (r1 : ByteArray) (r2 : Int) (r3 : Int) (w0 w : World) (hI : IsS48 w0 w g s0_0 s0_1 s0_2) (hB : Below w0.heap.size w0 w) (h : spec_l1Cur_spoilt.f k s0_0 s0_1 s0_2 a1 a2 = some (r1, r2, r3)) :
  Calls Tryz.prog 30 #[.pointer (some ⟨g, 0, none⟩), .string a1, .string a2] w fun e w' => e = .returned (.string r1) ∧ IsS48 w0 w' g s0_0 r2 r3 ∧ Below w0.heap.size w0 w' ∧ KeepBut w w' g none := by
 have HI0 := am_ hI
 have HK := am_ (KeepBut.refl w g none)
 have HL := am_ hB.size
 clear hI
 have HW0 := am_ hB.size
 have HB := am_ hB
 clear hB
 have H := h
 unfold spec_l1Cur_spoilt.f at H
 clear h
 revert H; refine bn_ ?_; rintro ⟨t427, t428, t429⟩ A4 H; try dsimp only at H
 have H' := am_ H
 clear H
 go_enter Tryz.func30, Tryz.ntmps30
 go_wp2_with (first | (go_at_call 29; (with_reducible refine (spec_l1Cur_pick.calls g s0_0 s0_1 s0_2 2 t427 t428 t429 w0 _ ?_ ?_ A4.out).mono ?_); exact IsS48.q HI0; exact hbI_ HB (IsS48.ge HI0.out); rintro e w5 ⟨rfl, hi, hb, hk⟩; replace HK := kt_ HK hk; replace HB := am_ (hb); replace HI0 := am_ (hi)))
 repeat (go_quiet (first | (go_at_call 29; (with_reducible refine (spec_l1Cur_pick.calls g s0_0 s0_1 s0_2 2 t427 t428 t429 w0 _ ?_ ?_ A4.out).mono ?_); exact IsS48.q HI0; exact hbI_ HB (IsS48.ge HI0.out); rintro e w5 ⟨rfl, hi, hb, hk⟩; replace HK := kt_ HK hk; replace HB := am_ (hb); replace HI0 := am_ (hi))); try go_wp2_with (first | (go_at_call 29; (with_reducible refine (spec_l1Cur_pick.calls g s0_0 s0_1 s0_2 2 t427 t428 t429 w0 _ ?_ ?_ A4.out).mono ?_); exact IsS48.q HI0; exact hbI_ HB (IsS48.ge HI0.out); rintro e w5 ⟨rfl, hi, hb, hk⟩; replace HK := kt_ HK hk; replace HB := am_ (hb); replace HI0 := am_ (hi))))
 go_loopg [1, 7] k (fun kq v1 v7 w' => ∃ (x1_1 : ByteArray) (x7_1 : Int) (x1001_1 : Int) (x1002_1 : Int), v1 = .string x1_1 ∧ v7 = .int .i64 x7_1 ∧ Aside0 (spec_l1Cur_spoilt.l0 kq x1_1 a2 x7_1 s0_0 x1001_1 x1002_1 = some (r1, r2, r3)) ∧ Aside0 (kq ≤ k) ∧ Aside0 (IsS48 w0 w' g s0_0 x1001_1 x1002_1) ∧ Aside0 (KeepBut w w' g none) ∧ Aside0 (Below w0.heap.size w0 w'))
 case atStart => exact ⟨(a1), (wrap64 (1 + t427)), (t428), (t429), sr_, sr_, H', ⟨Nat.le_refl _⟩, ⟨IsS48.q HI0⟩, ⟨hk_ HK⟩, ⟨hbI_ HB (IsS48.ge HI0.out)⟩⟩
 clear H'
 obtain ⟨x1_1, x7_1, x1001_1, x1002_1, rfl, rfl, HA, HK1, HI0, HK, HB⟩ := hrel
 cases gk with
 | zero => exact absurd HA.out (by simp [spec_l1Cur_spoilt.l0])
 | succ k1 => ?_
 have H := HA.out
 clear HA
 simp only [spec_l1Cur_spoilt.l0] at H
 have HC6 := am_ H
 clear H
 go_upto_region 2 with (fail)
 repeat (go_quiet (fail); go_upto_region 2 with (fail))
 go_cut [19] (fun v19 wc => ∃ (kq : Nat) (x19_5 : Bool), v19 = .bool x19_5 ∧ Aside0 (spec_l1Cur_spoilt.j1 kq x1_1 a2 x7_1 x19_5 s0_0 x1001_1 x1002_1 = some (r1, r2, r3)) ∧ Aside0 (kq ≤ k1) ∧ Aside0 (IsS48 w0 wc g s0_0 x1001_1 x1002_1) ∧ Aside0 (KeepBut w wc g none) ∧ Aside0 (Below w0.heap.size w0 wc))
 case first =>
  have H := HC6.out
  clear HC6
  by_cases c7 : x7_1 > 0
  ·rw [if_pos c7] at H
   have c7b0 : decide (0 < x7_1) = true := decide_eq_true c7
   clear c7
   (first | rw [c7b0] | (simp only [i64_w, i32_w]; rw [c7b0]) | skip)
   have H' := am_ H
   clear H
   go_wp2
   repeat (go_quiet (fail); try go_wp2)
   go_meet
   case rel => exact ⟨_, (decide ((x1_1.size : Int) > 0)), sr_, H', ⟨by have := HK1.out; first | omega | exact Nat.le_refl _⟩, ⟨IsS48.q HI0⟩, ⟨hk_ HK⟩, ⟨hbI_ HB (IsS48.ge HI0.out)⟩⟩
  rw [if_neg c7] at H
  have c7b0 : decide (0 < x7_1) = false := decide_eq_false c7
  clear c7
  (first | rw [c7b0] | (simp only [i64_w, i32_w]; rw [c7b0]) | skip)
  have H' := am_ H
  clear H
  go_wp2
  repeat (go_quiet (fail); try go_wp2)
  go_meet
  case rel => exact ⟨_, (false), sr_, H', ⟨by have := HK1.out; first | omega | exact Nat.le_refl _⟩, ⟨IsS48.q HI0⟩, ⟨hk_ HK⟩, ⟨hbI_ HB (IsS48.ge HI0.out)⟩⟩
 clear HC6
 obtain ⟨kq, x19_5, rfl, HA, HJ5, HI0, HK, HB⟩ := hcut
 cases kq with
 | zero => exact absurd HA.out (by simp [spec_l1Cur_spoilt.j1])
 | succ kj5 => ?_
 have H := HA.out
 clear HA
 simp only [spec_l1Cur_spoilt.j1] at H
 by_cases c8 : x19_5 = true
 case neg => replace c8 := Bool.eq_false_iff.mpr c8; subst c8; rw [if_neg (show ¬ (false = true) by decide)] at H; simp only [Option.some.injEq, Prod.mk.injEq] at H; obtain ⟨rfl, rfl, rfl⟩ := H; go_wp2; (repeat (go_quiet (fail); try go_wp2)); go_ret; (exact ⟨se_, IsS48.q HI0, hbI_ HB (IsS48.ge HI0.out), hk_ HK⟩)
 subst c8
 rw [if_pos rfl] at H
 revert H; refine bn_ ?_; rintro ⟨t430, t431, t432⟩ A9 H; try dsimp only at H
 revert H; refine bn_ ?_; rintro ⟨t433, t434, t435⟩ A10 H; try dsimp only at H
 revert H; refine pd_ fun c11b0 H => ?_
 revert H; refine pd_ fun c12b0 H => ?_
 obtain ⟨y436, hy436⟩ : ∃ y_ : List Int, y_ = (([bt a2 t433] : List Int)) := ⟨_, rfl⟩
 (try with_reducible replace H := (Option.bind_some _ _).symm.trans H); (try dsimp only at H); (try rw [← hy436] at H)
 have Ny436 := am_ hy436
 clear hy436
 revert H; refine bn_ ?_; rintro ⟨t439, t440, t441⟩ A14 H; try dsimp only at H
 by_cases c15 : t439 = 0
 ·rw [if_pos c15] at H
  have c15b0 : (t439 == 0) = true := beq_iff_eq.mpr c15
  have c15b1 : (t439 != 0) = false := bne_eq_false_iff_eq.mpr c15
  clear c15
  revert H; refine pf_ fun c16 H => ?_
  have c16b0 := eq_true c16
  have c16b1 := decide_eq_true c16
  clear c16
  revert H; refine pf_ fun c17 H => ?_
  have c17b0 := eq_true c17
  have c17b1 := decide_eq_true c17
  clear c17
  revert H; refine pf_ fun c18 H => ?_
  have c18b0 := eq_true c18
  have c18b1 := decide_eq_true c18
  try have c18b2 : (9223372036854775807 < (x1_1.extract 0 (t430 : Int).toNat).size + (strOfNums y436).size) = False := eq_false (Nat.not_lt.2 c18)
  have c19b0 := eq_true (od_ : 0 ≤ t430)
  have c20b0 := eq_true (od_ : t430 ≤ (x1_1.size : Int))
  revert H; refine pf_ fun c21 H => ?_
  have c21b0 := eq_true c21
  have c21b1 := decide_eq_true c21
  try have c21b2 : (9223372036854775807 < ((x1_1.extract 0 (t430 : Int).toNat) ++ (strOfNums y436)).size + (x1_1.extract (t430 : Int).toNat x1_1.size).size) = False := eq_false (Nat.not_lt.2 c21)
  have c21b3 : (9223372036854775807 < (x1_1.extract 0 (t430 : Int).toNat).size + (strOfNums y436).size + (x1_1.extract (t430 : Int).toNat x1_1.size).size) = False := eq_false (Nat.not_lt.2 (by have h_ := c21; simp only [ByteArray.size_append] at h_; exact h_))
  have H' := am_ H
  clear H
  go_wp2_with (first | (go_at_call 29; (with_reducible refine (spec_l1Cur_pick.calls g s0_0 x1001_1 x1002_1 (x1_1.size : Int) t430 t431 t432 w0 _ ?_ ?_ A9.out).mono ?_); exact IsS48.q HI0; exact hbI_ HB (IsS48.ge HI0.out); rintro e w22 ⟨rfl, hi, hb, hk⟩; replace HK := kt_ HK hk; replace HB := am_ (hb); replace HI0 := am_ (hi)) | (go_at_call 29; (with_reducible refine (spec_l1Cur_pick.calls g s0_0 t431 t432 (a2.size : Int) t433 t434 t435 w0 _ ?_ ?_ A10.out).mono ?_); exact IsS48.q HI0; exact hbI_ HB (IsS48.ge HI0.out); rintro e w23 ⟨rfl, hi, hb, hk⟩; replace HK := kt_ HK hk; replace HB := am_ (hb); replace HI0 := am_ (hi); have p13 : 0 ≤ (t433 : Int) := od_; have q13 : t433 < (a2.size : Int) := od_; have hx13 := bt_at a2 t433; replace p13 := eq_true p13; replace q13 := eq_true q13) | ((with_reducible refine gate_dst (N := 32) rfl ?_); (try (refine gate_guard (by rfl) ?_; dsimp only)); refine Kd.R_lit (Kd.int .u8) _ 5 ?hg (N := 32) ?hd (xs := ([bt a2 t433] : List Int)) (inner := [.int .u8 (bt a2 t433)]) (ok := fun _ => True) (okp := fun _ => True) ?hr ?hp (fun _ hk => hk) trivial (Below.refl _ _) (Nat.le_refl _) (by simp) ?_; (case hd => rfl); (case hg => rfl); (case hr => first | (go_simp; done) | (go_simp; rfl)); (case hp => exact (Reps.one (show Kd.M (Kd.int .u8) _ _ _ (bt a2 t433) [.int .u8 (bt a2 t433)] from rfl) (Reps.none _ _))); intro v437 w24 ho25 hb hg_ hnew_; clear hg_ hnew_; (first | rw [← Ny436.out] at ho25 | (simp only [Int.reduceToNat] at ho25; rw [← Ny436.out] at ho25)); have HO438 := am_ (Kd.R_lower ho25 (keep_size (hk_ HK))); replace HK := hkb_ HK hb; replace HB := am_ (below_step (hbI_ HB (IsS48.ge HI0.out)) hb); replace HI0 := IsS48.b HI0 hb; clear hb ho25; have hcv26 := own_string (P := Tryz.prog) Tryz.underlying22 Tryz.underlying5 Tryz.underlying9 (Kd.own_of_R HO438.out); try clear HO438) | (go_at_call 29; (with_reducible refine (spec_l1Cur_pick.calls g s0_0 t434 t435 3 t439 t440 t441 w0 _ ?_ ?_ A14.out).mono ?_); exact IsS48.q HI0; exact hbI_ HB (IsS48.ge HI0.out); rintro e w27 ⟨rfl, hi, hb, hk⟩; replace HK := kt_ HK hk; replace HB := am_ (hb); replace HI0 := am_ (hi)))
  repeat (go_quiet (first | (go_at_call 29; (with_reducible refine (spec_l1Cur_pick.calls g s0_0 x1001_1 x1002_1 (x1_1.size : Int) t430 t431 t432 w0 _ ?_ ?_ A9.out).mono ?_); exact IsS48.q HI0; exact hbI_ HB (IsS48.ge HI0.out); rintro e w22 ⟨rfl, hi, hb, hk⟩; replace HK := kt_ HK hk; replace HB := am_ (hb); replace HI0 := am_ (hi)) | (go_at_call 29; (with_reducible refine (spec_l1Cur_pick.calls g s0_0 t431 t432 (a2.size : Int) t433 t434 t435 w0 _ ?_ ?_ A10.out).mono ?_); exact IsS48.q HI0; exact hbI_ HB (IsS48.ge HI0.out); rintro e w23 ⟨rfl, hi, hb, hk⟩; replace HK := kt_ HK hk; replace HB := am_ (hb); replace HI0 := am_ (hi); have p13 : 0 ≤ (t433 : Int) := od_; have q13 : t433 < (a2.size : Int) := od_; have hx13 := bt_at a2 t433; replace p13 := eq_true p13; replace q13 := eq_true q13) | ((with_reducible refine gate_dst (N := 32) rfl ?_); (try (refine gate_guard (by rfl) ?_; dsimp only)); refine Kd.R_lit (Kd.int .u8) _ 5 ?hg (N := 32) ?hd (xs := ([bt a2 t433] : List Int)) (inner := [.int .u8 (bt a2 t433)]) (ok := fun _ => True) (okp := fun _ => True) ?hr ?hp (fun _ hk => hk) trivial (Below.refl _ _) (Nat.le_refl _) (by simp) ?_; (case hd => rfl); (case hg => rfl); (case hr => first | (go_simp; done) | (go_simp; rfl)); (case hp => exact (Reps.one (show Kd.M (Kd.int .u8) _ _ _ (bt a2 t433) [.int .u8 (bt a2 t433)] from rfl) (Reps.none _ _))); intro v437 w24 ho25 hb hg_ hnew_; clear hg_ hnew_; (first | rw [← Ny436.out] at ho25 | (simp only [Int.reduceToNat] at ho25; rw [← Ny436.out] at ho25)); have HO438 := am_ (Kd.R_lower ho25 (keep_size (hk_ HK))); replace HK := hkb_ HK hb; replace HB := am_ (below_step (hbI_ HB (IsS48.ge HI0.out)) hb); replace HI0 := IsS48.b HI0 hb; clear hb ho25; have hcv26 := own_string (P := Tryz.prog) Tryz.underlying22 Tryz.underlying5 Tryz.underlying9 (Kd.own_of_R HO438.out); try clear HO438) | (go_at_call 29; (with_reducible refine (spec_l1Cur_pick.calls g s0_0 t434 t435 3 t439 t440 t441 w0 _ ?_ ?_ A14.out).mono ?_); exact IsS48.q HI0; exact hbI_ HB (IsS48.ge HI0.out); rintro e w27 ⟨rfl, hi, hb, hk⟩; replace HK := kt_ HK hk; replace HB := am_ (hb); replace HI0 := am_ (hi))); try go_wp2_with (first | (go_at_call 29; (with_reducible refine (spec_l1Cur_pick.calls g s0_0 x1001_1 x1002_1 (x1_1.size : Int) t430 t431 t432 w0 _ ?_ ?_ A9.out).mono ?_); exact IsS48.q HI0; exact hbI_ HB (IsS48.ge HI0.out); rintro e w22 ⟨rfl, hi, hb, hk⟩; replace HK := kt_ HK hk; replace HB := am_ (hb); replace HI0 := am_ (hi)) | (go_at_call 29; (with_reducible refine (spec_l1Cur_pick.calls g s0_0 t431 t432 (a2.size : Int) t433 t434 t435 w0 _ ?_ ?_ A10.out).mono ?_); exact IsS48.q HI0; exact hbI_ HB (IsS48.ge HI0.out); rintro e w23 ⟨rfl, hi, hb, hk⟩; replace HK := kt_ HK hk; replace HB := am_ (hb); replace HI0 := am_ (hi); have p13 : 0 ≤ (t433 : Int) := od_; have q13 : t433 < (a2.size : Int) := od_; have hx13 := bt_at a2 t433; replace p13 := eq_true p13; replace q13 := eq_true q13) | ((with_reducible refine gate_dst (N := 32) rfl ?_); (try (refine gate_guard (by rfl) ?_; dsimp only)); refine Kd.R_lit (Kd.int .u8) _ 5 ?hg (N := 32) ?hd (xs := ([bt a2 t433] : List Int)) (inner := [.int .u8 (bt a2 t433)]) (ok := fun _ => True) (okp := fun _ => True) ?hr ?hp (fun _ hk => hk) trivial (Below.refl _ _) (Nat.le_refl _) (by simp) ?_; (case hd => rfl); (case hg => rfl); (case hr => first | (go_simp; done) | (go_simp; rfl)); (case hp => exact (Reps.one (show Kd.M (Kd.int .u8) _ _ _ (bt a2 t433) [.int .u8 (bt a2 t433)] from rfl) (Reps.none _ _))); intro v437 w24 ho25 hb hg_ hnew_; clear hg_ hnew_; (first | rw [← Ny436.out] at ho25 | (simp only [Int.reduceToNat] at ho25; rw [← Ny436.out] at ho25)); have HO438 := am_ (Kd.R_lower ho25 (keep_size (hk_ HK))); replace HK := hkb_ HK hb; replace HB := am_ (below_step (hbI_ HB (IsS48.ge HI0.out)) hb); replace HI0 := IsS48.b HI0 hb; clear hb ho25; have hcv26 := own_string (P := Tryz.prog) Tryz.underlying22 Tryz.underlying5 Tryz.underlying9 (Kd.own_of_R HO438.out); try clear HO438) | (go_at_call 29; (with_reducible refine (spec_l1Cur_pick.calls g s0_0 t434 t435 3 t439 t440 t441 w0 _ ?_ ?_ A14.out).mono ?_); exact IsS48.q HI0; exact hbI_ HB (IsS48.ge HI0.out); rintro e w27 ⟨rfl, hi, hb, hk⟩; replace HK := kt_ HK hk; replace HB := am_ (hb); replace HI0 := am_ (hi))))
  go_roundg kj5
  case measure => have := HK1.out; have := HJ5.out; omega
  case rel => exact ⟨(((x1_1.extract 0 (t430 : Int).toNat) ++ (strOfNums y436)) ++ (x1_1.extract (t430 : Int).toNat x1_1.size)), (wrap64 (x7_1 - 1)), (t440), (t441), sr_, sr_, H', ⟨by have := HK1.out; have := HJ5.out; omega⟩, ⟨IsS48.q HI0⟩, ⟨hk_ HK⟩, ⟨hbI_ HB (IsS48.ge HI0.out)⟩⟩
 rw [if_neg c15] at H
 have c15b0 : (t439 == 0) = false := beq_eq_false_iff_ne.mpr c15
 have c15b1 : (t439 != 0) = true := bne_iff_ne.mpr c15
 by_cases c28 : t439 = 1
 ·rw [if_pos c28] at H
  have c28b0 : (t439 == 1) = true := beq_iff_eq.mpr c28
  have c28b1 : (t439 != 1) = false := bne_eq_false_iff_eq.mpr c28
  clear c28
  revert H; refine pf_ fun c29 H => ?_
  have c29b0 := eq_true c29
  have c29b1 := decide_eq_true c29
  clear c29
  revert H; refine pf_ fun c30 H => ?_
  have c30b0 := eq_true c30
  have c30b1 := decide_eq_true c30
  clear c30
  revert H; refine pf_ fun c31 H => ?_
  have c31b0 := eq_true c31
  have c31b1 := decide_eq_true c31
  try have c31b2 : (9223372036854775807 < (x1_1.extract 0 (t430 : Int).toNat).size + (strOfNums y436).size) = False := eq_false (Nat.not_lt.2 c31)
  obtain ⟨ji32, hji32⟩ : ∃ j_ : Int, (wrap64 (t430 + 1)) = j_ := ⟨_, rfl⟩
  replace H : (if 0 ≤ (ji32) then (if (ji32) ≤ (x1_1.size : Int) then (if ((x1_1.extract 0 (t430 : Int).toNat) ++ (strOfNums y436)).size + (x1_1.extract ((ji32) : Int).toNat x1_1.size).size ≤ 9223372036854775807 then (spec_l1Cur_spoilt.l0 kj5 (((x1_1.extract 0 (t430 : Int).toNat) ++ (strOfNums y436)) ++ (x1_1.extract ((ji32) : Int).toNat x1_1.size)) a2 (wrap64 (x7_1 - 1)) s0_0 t440 t441) else (none)) else (none)) else (none)) = some (r1, r2, r3) := by first | (rw [hji32] at H; exact H) | (simp only [hji32] at H ⊢; exact H)
  (try rw [hji32] at A9)
  (try rw [hji32] at A10)
  (try rw [hji32] at A14)
  have hji32w : (IntKind.i64.wrap (t430 + 1)) = ji32 := (i64_w _).trans hji32
  revert H; refine pf_ fun c33 H => ?_
  have c33b0 := eq_true c33
  have c33b1 := decide_eq_true c33
  clear c33
  revert H; refine pf_ fun c34 H => ?_
  have c34b0 := eq_true c34
  have c34b1 := decide_eq_true c34
  clear c34
  revert H; refine pf_ fun c35 H => ?_
  have c35b0 := eq_true c35
  have c35b1 := decide_eq_true c35
  try have c35b2 : (9223372036854775807 < ((x1_1.extract 0 (t430 : Int).toNat) ++ (strOfNums y436)).size + (x1_1.extract ((ji32) : Int).toNat x1_1.size).size) = False := eq_false (Nat.not_lt.2 c35)
  have c35b3 : (9223372036854775807 < (x1_1.extract 0 (t430 : Int).toNat).size + (strOfNums y436).size + (x1_1.extract ((ji32) : Int).toNat x1_1.size).size) = False := eq_false (Nat.not_lt.2 (by have h_ := c35; simp only [ByteArray.size_append] at h_; exact h_))
  have H' := am_ H
  clear H
  go_wp2_with (first | (go_at_call 29; (with_reducible refine (spec_l1Cur_pick.calls g s0_0 x1001_1 x1002_1 (x1_1.size : Int) t430 t431 t432 w0 _ ?_ ?_ A9.out).mono ?_); exact IsS48.q HI0; exact hbI_ HB (IsS48.ge HI0.out); rintro e w36 ⟨rfl, hi, hb, hk⟩; replace HK := kt_ HK hk; replace HB := am_ (hb); replace HI0 := am_ (hi)) | (go_at_call 29; (with_reducible refine (spec_l1Cur_pick.calls g s0_0 t431 t432 (a2.size : Int) t433 t434 t435 w0 _ ?_ ?_ A10.out).mono ?_); exact IsS48.q HI0; exact hbI_ HB (IsS48.ge HI0.out); rintro e w37 ⟨rfl, hi, hb, hk⟩; replace HK := kt_ HK hk; replace HB := am_ (hb); replace HI0 := am_ (hi); have p13 : 0 ≤ (t433 : Int) := od_; have q13 : t433 < (a2.size : Int) := od_; have hx13 := bt_at a2 t433; replace p13 := eq_true p13; replace q13 := eq_true q13) | ((with_reducible refine gate_dst (N := 32) rfl ?_); (try (refine gate_guard (by rfl) ?_; dsimp only)); refine Kd.R_lit (Kd.int .u8) _ 5 ?hg (N := 32) ?hd (xs := ([bt a2 t433] : List Int)) (inner := [.int .u8 (bt a2 t433)]) (ok := fun _ => True) (okp := fun _ => True) ?hr ?hp (fun _ hk => hk) trivial (Below.refl _ _) (Nat.le_refl _) (by simp) ?_; (case hd => rfl); (case hg => rfl); (case hr => first | (go_simp; done) | (go_simp; rfl)); (case hp => exact (Reps.one (show Kd.M (Kd.int .u8) _ _ _ (bt a2 t433) [.int .u8 (bt a2 t433)] from rfl) (Reps.none _ _))); intro v437 w38 ho39 hb hg_ hnew_; clear hg_ hnew_; (first | rw [← Ny436.out] at ho39 | (simp only [Int.reduceToNat] at ho39; rw [← Ny436.out] at ho39)); have HO438 := am_ (Kd.R_lower ho39 (keep_size (hk_ HK))); replace HK := hkb_ HK hb; replace HB := am_ (below_step (hbI_ HB (IsS48.ge HI0.out)) hb); replace HI0 := IsS48.b HI0 hb; clear hb ho39; have hcv40 := own_string (P := Tryz.prog) Tryz.underlying22 Tryz.underlying5 Tryz.underlying9 (Kd.own_of_R HO438.out); try clear HO438) | (go_at_call 29; (with_reducible refine (spec_l1Cur_pick.calls g s0_0 t434 t435 3 t439 t440 t441 w0 _ ?_ ?_ A14.out).mono ?_); exact IsS48.q HI0; exact hbI_ HB (IsS48.ge HI0.out); rintro e w41 ⟨rfl, hi, hb, hk⟩; replace HK := kt_ HK hk; replace HB := am_ (hb); replace HI0 := am_ (hi)))
  repeat (go_quiet (first | (go_at_call 29; (with_reducible refine (spec_l1Cur_pick.calls g s0_0 x1001_1 x1002_1 (x1_1.size : Int) t430 t431 t432 w0 _ ?_ ?_ A9.out).mono ?_); exact IsS48.q HI0; exact hbI_ HB (IsS48.ge HI0.out); rintro e w36 ⟨rfl, hi, hb, hk⟩; replace HK := kt_ HK hk; replace HB := am_ (hb); replace HI0 := am_ (hi)) | (go_at_call 29; (with_reducible refine (spec_l1Cur_pick.calls g s0_0 t431 t432 (a2.size : Int) t433 t434 t435 w0 _ ?_ ?_ A10.out).mono ?_); exact IsS48.q HI0; exact hbI_ HB (IsS48.ge HI0.out); rintro e w37 ⟨rfl, hi, hb, hk⟩; replace HK := kt_ HK hk; replace HB := am_ (hb); replace HI0 := am_ (hi); have p13 : 0 ≤ (t433 : Int) := od_; have q13 : t433 < (a2.size : Int) := od_; have hx13 := bt_at a2 t433; replace p13 := eq_true p13; replace q13 := eq_true q13) | ((with_reducible refine gate_dst (N := 32) rfl ?_); (try (refine gate_guard (by rfl) ?_; dsimp only)); refine Kd.R_lit (Kd.int .u8) _ 5 ?hg (N := 32) ?hd (xs := ([bt a2 t433] : List Int)) (inner := [.int .u8 (bt a2 t433)]) (ok := fun _ => True) (okp := fun _ => True) ?hr ?hp (fun _ hk => hk) trivial (Below.refl _ _) (Nat.le_refl _) (by simp) ?_; (case hd => rfl); (case hg => rfl); (case hr => first | (go_simp; done) | (go_simp; rfl)); (case hp => exact (Reps.one (show Kd.M (Kd.int .u8) _ _ _ (bt a2 t433) [.int .u8 (bt a2 t433)] from rfl) (Reps.none _ _))); intro v437 w38 ho39 hb hg_ hnew_; clear hg_ hnew_; (first | rw [← Ny436.out] at ho39 | (simp only [Int.reduceToNat] at ho39; rw [← Ny436.out] at ho39)); have HO438 := am_ (Kd.R_lower ho39 (keep_size (hk_ HK))); replace HK := hkb_ HK hb; replace HB := am_ (below_step (hbI_ HB (IsS48.ge HI0.out)) hb); replace HI0 := IsS48.b HI0 hb; clear hb ho39; have hcv40 := own_string (P := Tryz.prog) Tryz.underlying22 Tryz.underlying5 Tryz.underlying9 (Kd.own_of_R HO438.out); try clear HO438) | (go_at_call 29; (with_reducible refine (spec_l1Cur_pick.calls g s0_0 t434 t435 3 t439 t440 t441 w0 _ ?_ ?_ A14.out).mono ?_); exact IsS48.q HI0; exact hbI_ HB (IsS48.ge HI0.out); rintro e w41 ⟨rfl, hi, hb, hk⟩; replace HK := kt_ HK hk; replace HB := am_ (hb); replace HI0 := am_ (hi))); try go_wp2_with (first | (go_at_call 29; (with_reducible refine (spec_l1Cur_pick.calls g s0_0 x1001_1 x1002_1 (x1_1.size : Int) t430 t431 t432 w0 _ ?_ ?_ A9.out).mono ?_); exact IsS48.q HI0; exact hbI_ HB (IsS48.ge HI0.out); rintro e w36 ⟨rfl, hi, hb, hk⟩; replace HK := kt_ HK hk; replace HB := am_ (hb); replace HI0 := am_ (hi)) | (go_at_call 29; (with_reducible refine (spec_l1Cur_pick.calls g s0_0 t431 t432 (a2.size : Int) t433 t434 t435 w0 _ ?_ ?_ A10.out).mono ?_); exact IsS48.q HI0; exact hbI_ HB (IsS48.ge HI0.out); rintro e w37 ⟨rfl, hi, hb, hk⟩; replace HK := kt_ HK hk; replace HB := am_ (hb); replace HI0 := am_ (hi); have p13 : 0 ≤ (t433 : Int) := od_; have q13 : t433 < (a2.size : Int) := od_; have hx13 := bt_at a2 t433; replace p13 := eq_true p13; replace q13 := eq_true q13) | ((with_reducible refine gate_dst (N := 32) rfl ?_); (try (refine gate_guard (by rfl) ?_; dsimp only)); refine Kd.R_lit (Kd.int .u8) _ 5 ?hg (N := 32) ?hd (xs := ([bt a2 t433] : List Int)) (inner := [.int .u8 (bt a2 t433)]) (ok := fun _ => True) (okp := fun _ => True) ?hr ?hp (fun _ hk => hk) trivial (Below.refl _ _) (Nat.le_refl _) (by simp) ?_; (case hd => rfl); (case hg => rfl); (case hr => first | (go_simp; done) | (go_simp; rfl)); (case hp => exact (Reps.one (show Kd.M (Kd.int .u8) _ _ _ (bt a2 t433) [.int .u8 (bt a2 t433)] from rfl) (Reps.none _ _))); intro v437 w38 ho39 hb hg_ hnew_; clear hg_ hnew_; (first | rw [← Ny436.out] at ho39 | (simp only [Int.reduceToNat] at ho39; rw [← Ny436.out] at ho39)); have HO438 := am_ (Kd.R_lower ho39 (keep_size (hk_ HK))); replace HK := hkb_ HK hb; replace HB := am_ (below_step (hbI_ HB (IsS48.ge HI0.out)) hb); replace HI0 := IsS48.b HI0 hb; clear hb ho39; have hcv40 := own_string (P := Tryz.prog) Tryz.underlying22 Tryz.underlying5 Tryz.underlying9 (Kd.own_of_R HO438.out); try clear HO438) | (go_at_call 29; (with_reducible refine (spec_l1Cur_pick.calls g s0_0 t434 t435 3 t439 t440 t441 w0 _ ?_ ?_ A14.out).mono ?_); exact IsS48.q HI0; exact hbI_ HB (IsS48.ge HI0.out); rintro e w41 ⟨rfl, hi, hb, hk⟩; replace HK := kt_ HK hk; replace HB := am_ (hb); replace HI0 := am_ (hi))))
  go_roundg kj5
  case measure => have := HK1.out; have := HJ5.out; omega
  case rel => exact ⟨(((x1_1.extract 0 (t430 : Int).toNat) ++ (strOfNums y436)) ++ (x1_1.extract ((ji32) : Int).toNat x1_1.size)), (wrap64 (x7_1 - 1)), (t440), (t441), (by first | rfl | (simp; done) | (simp only [← hji32] <;> (first | rfl | simp)) | (simp [*]; done)), sr_, H', ⟨by have := HK1.out; have := HJ5.out; omega⟩, ⟨IsS48.q HI0⟩, ⟨hk_ HK⟩, ⟨hbI_ HB (IsS48.ge HI0.out)⟩⟩
 rw [if_neg c28] at H
 have c28b0 : (t439 == 1) = false := beq_eq_false_iff_ne.mpr c28
 have c28b1 : (t439 != 1) = true := bne_iff_ne.mpr c28
 revert H; refine pf_ fun c42 H => ?_
 have c42b0 := eq_true c42
 have c42b1 := decide_eq_true c42
 clear c42
 revert H; refine pf_ fun c43 H => ?_
 have c43b0 := eq_true c43
 have c43b1 := decide_eq_true c43
 clear c43
 obtain ⟨ji44, hji44⟩ : ∃ j_ : Int, (wrap64 (t430 + 1)) = j_ := ⟨_, rfl⟩
 replace H : (if 0 ≤ (ji44) then (if (ji44) ≤ (x1_1.size : Int) then (if (x1_1.extract 0 (t430 : Int).toNat).size + (x1_1.extract ((ji44) : Int).toNat x1_1.size).size ≤ 9223372036854775807 then (spec_l1Cur_spoilt.l0 kj5 ((x1_1.extract 0 (t430 : Int).toNat) ++ (x1_1.extract ((ji44) : Int).toNat x1_1.size)) a2 (wrap64 (x7_1 - 1)) s0_0 t440 t441) else (none)) else (none)) else (none)) = some (r1, r2, r3) := by first | (rw [hji44] at H; exact H) | (simp only [hji44] at H ⊢; exact H)
 (try rw [hji44] at A9)
 (try rw [hji44] at A10)
 (try rw [hji44] at A14)
 have hji44w : (IntKind.i64.wrap (t430 + 1)) = ji44 := (i64_w _).trans hji44
 revert H; refine pf_ fun c45 H => ?_
 have c45b0 := eq_true c45
 have c45b1 := decide_eq_true c45
 clear c45
 revert H; refine pf_ fun c46 H => ?_
 have c46b0 := eq_true c46
 have c46b1 := decide_eq_true c46
 clear c46
 revert H; refine pf_ fun c47 H => ?_
 have c47b0 := eq_true c47
 have c47b1 := decide_eq_true c47
 try have c47b2 : (9223372036854775807 < (x1_1.extract 0 (t430 : Int).toNat).size + (x1_1.extract ((ji44) : Int).toNat x1_1.size).size) = False := eq_false (Nat.not_lt.2 c47)
 have H' := am_ H
 clear H
 go_wp2_with (first | (go_at_call 29; (with_reducible refine (spec_l1Cur_pick.calls g s0_0 x1001_1 x1002_1 (x1_1.size : Int) t430 t431 t432 w0 _ ?_ ?_ A9.out).mono ?_); exact IsS48.q HI0; exact hbI_ HB (IsS48.ge HI0.out); rintro e w48 ⟨rfl, hi, hb, hk⟩; replace HK := kt_ HK hk; replace HB := am_ (hb); replace HI0 := am_ (hi)) | (go_at_call 29; (with_reducible refine (spec_l1Cur_pick.calls g s0_0 t431 t432 (a2.size : Int) t433 t434 t435 w0 _ ?_ ?_ A10.out).mono ?_); exact IsS48.q HI0; exact hbI_ HB (IsS48.ge HI0.out); rintro e w49 ⟨rfl, hi, hb, hk⟩; replace HK := kt_ HK hk; replace HB := am_ (hb); replace HI0 := am_ (hi); have p13 : 0 ≤ (t433 : Int) := od_; have q13 : t433 < (a2.size : Int) := od_; have hx13 := bt_at a2 t433; replace p13 := eq_true p13; replace q13 := eq_true q13) | ((with_reducible refine gate_dst (N := 32) rfl ?_); (try (refine gate_guard (by rfl) ?_; dsimp only)); refine Kd.R_lit (Kd.int .u8) _ 5 ?hg (N := 32) ?hd (xs := ([bt a2 t433] : List Int)) (inner := [.int .u8 (bt a2 t433)]) (ok := fun _ => True) (okp := fun _ => True) ?hr ?hp (fun _ hk => hk) trivial (Below.refl _ _) (Nat.le_refl _) (by simp) ?_; (case hd => rfl); (case hg => rfl); (case hr => first | (go_simp; done) | (go_simp; rfl)); (case hp => exact (Reps.one (show Kd.M (Kd.int .u8) _ _ _ (bt a2 t433) [.int .u8 (bt a2 t433)] from rfl) (Reps.none _ _))); intro v437 w50 ho51 hb hg_ hnew_; clear hg_ hnew_; (first | rw [← Ny436.out] at ho51 | (simp only [Int.reduceToNat] at ho51; rw [← Ny436.out] at ho51)); have HO438 := am_ (Kd.R_lower ho51 (keep_size (hk_ HK))); replace HK := hkb_ HK hb; replace HB := am_ (below_step (hbI_ HB (IsS48.ge HI0.out)) hb); replace HI0 := IsS48.b HI0 hb; clear hb ho51; have hcv52 := own_string (P := Tryz.prog) Tryz.underlying22 Tryz.underlying5 Tryz.underlying9 (Kd.own_of_R HO438.out); try clear HO438) | (go_at_call 29; (with_reducible refine (spec_l1Cur_pick.calls g s0_0 t434 t435 3 t439 t440 t441 w0 _ ?_ ?_ A14.out).mono ?_); exact IsS48.q HI0; exact hbI_ HB (IsS48.ge HI0.out); rintro e w53 ⟨rfl, hi, hb, hk⟩; replace HK := kt_ HK hk; replace HB := am_ (hb); replace HI0 := am_ (hi)))
 repeat (go_quiet (first | (go_at_call 29; (with_reducible refine (spec_l1Cur_pick.calls g s0_0 x1001_1 x1002_1 (x1_1.size : Int) t430 t431 t432 w0 _ ?_ ?_ A9.out).mono ?_); exact IsS48.q HI0; exact hbI_ HB (IsS48.ge HI0.out); rintro e w48 ⟨rfl, hi, hb, hk⟩; replace HK := kt_ HK hk; replace HB := am_ (hb); replace HI0 := am_ (hi)) | (go_at_call 29; (with_reducible refine (spec_l1Cur_pick.calls g s0_0 t431 t432 (a2.size : Int) t433 t434 t435 w0 _ ?_ ?_ A10.out).mono ?_); exact IsS48.q HI0; exact hbI_ HB (IsS48.ge HI0.out); rintro e w49 ⟨rfl, hi, hb, hk⟩; replace HK := kt_ HK hk; replace HB := am_ (hb); replace HI0 := am_ (hi); have p13 : 0 ≤ (t433 : Int) := od_; have q13 : t433 < (a2.size : Int) := od_; have hx13 := bt_at a2 t433; replace p13 := eq_true p13; replace q13 := eq_true q13) | ((with_reducible refine gate_dst (N := 32) rfl ?_); (try (refine gate_guard (by rfl) ?_; dsimp only)); refine Kd.R_lit (Kd.int .u8) _ 5 ?hg (N := 32) ?hd (xs := ([bt a2 t433] : List Int)) (inner := [.int .u8 (bt a2 t433)]) (ok := fun _ => True) (okp := fun _ => True) ?hr ?hp (fun _ hk => hk) trivial (Below.refl _ _) (Nat.le_refl _) (by simp) ?_; (case hd => rfl); (case hg => rfl); (case hr => first | (go_simp; done) | (go_simp; rfl)); (case hp => exact (Reps.one (show Kd.M (Kd.int .u8) _ _ _ (bt a2 t433) [.int .u8 (bt a2 t433)] from rfl) (Reps.none _ _))); intro v437 w50 ho51 hb hg_ hnew_; clear hg_ hnew_; (first | rw [← Ny436.out] at ho51 | (simp only [Int.reduceToNat] at ho51; rw [← Ny436.out] at ho51)); have HO438 := am_ (Kd.R_lower ho51 (keep_size (hk_ HK))); replace HK := hkb_ HK hb; replace HB := am_ (below_step (hbI_ HB (IsS48.ge HI0.out)) hb); replace HI0 := IsS48.b HI0 hb; clear hb ho51; have hcv52 := own_string (P := Tryz.prog) Tryz.underlying22 Tryz.underlying5 Tryz.underlying9 (Kd.own_of_R HO438.out); try clear HO438) | (go_at_call 29; (with_reducible refine (spec_l1Cur_pick.calls g s0_0 t434 t435 3 t439 t440 t441 w0 _ ?_ ?_ A14.out).mono ?_); exact IsS48.q HI0; exact hbI_ HB (IsS48.ge HI0.out); rintro e w53 ⟨rfl, hi, hb, hk⟩; replace HK := kt_ HK hk; replace HB := am_ (hb); replace HI0 := am_ (hi))); try go_wp2_with (first | (go_at_call 29; (with_reducible refine (spec_l1Cur_pick.calls g s0_0 x1001_1 x1002_1 (x1_1.size : Int) t430 t431 t432 w0 _ ?_ ?_ A9.out).mono ?_); exact IsS48.q HI0; exact hbI_ HB (IsS48.ge HI0.out); rintro e w48 ⟨rfl, hi, hb, hk⟩; replace HK := kt_ HK hk; replace HB := am_ (hb); replace HI0 := am_ (hi)) | (go_at_call 29; (with_reducible refine (spec_l1Cur_pick.calls g s0_0 t431 t432 (a2.size : Int) t433 t434 t435 w0 _ ?_ ?_ A10.out).mono ?_); exact IsS48.q HI0; exact hbI_ HB (IsS48.ge HI0.out); rintro e w49 ⟨rfl, hi, hb, hk⟩; replace HK := kt_ HK hk; replace HB := am_ (hb); replace HI0 := am_ (hi); have p13 : 0 ≤ (t433 : Int) := od_; have q13 : t433 < (a2.size : Int) := od_; have hx13 := bt_at a2 t433; replace p13 := eq_true p13; replace q13 := eq_true q13) | ((with_reducible refine gate_dst (N := 32) rfl ?_); (try (refine gate_guard (by rfl) ?_; dsimp only)); refine Kd.R_lit (Kd.int .u8) _ 5 ?hg (N := 32) ?hd (xs := ([bt a2 t433] : List Int)) (inner := [.int .u8 (bt a2 t433)]) (ok := fun _ => True) (okp := fun _ => True) ?hr ?hp (fun _ hk => hk) trivial (Below.refl _ _) (Nat.le_refl _) (by simp) ?_; (case hd => rfl); (case hg => rfl); (case hr => first | (go_simp; done) | (go_simp; rfl)); (case hp => exact (Reps.one (show Kd.M (Kd.int .u8) _ _ _ (bt a2 t433) [.int .u8 (bt a2 t433)] from rfl) (Reps.none _ _))); intro v437 w50 ho51 hb hg_ hnew_; clear hg_ hnew_; (first | rw [← Ny436.out] at ho51 | (simp only [Int.reduceToNat] at ho51; rw [← Ny436.out] at ho51)); have HO438 := am_ (Kd.R_lower ho51 (keep_size (hk_ HK))); replace HK := hkb_ HK hb; replace HB := am_ (below_step (hbI_ HB (IsS48.ge HI0.out)) hb); replace HI0 := IsS48.b HI0 hb; clear hb ho51; have hcv52 := own_string (P := Tryz.prog) Tryz.underlying22 Tryz.underlying5 Tryz.underlying9 (Kd.own_of_R HO438.out); try clear HO438) | (go_at_call 29; (with_reducible refine (spec_l1Cur_pick.calls g s0_0 t434 t435 3 t439 t440 t441 w0 _ ?_ ?_ A14.out).mono ?_); exact IsS48.q HI0; exact hbI_ HB (IsS48.ge HI0.out); rintro e w53 ⟨rfl, hi, hb, hk⟩; replace HK := kt_ HK hk; replace HB := am_ (hb); replace HI0 := am_ (hi))))
 go_roundg kj5
 case measure => have := HK1.out; have := HJ5.out; omega
 case rel => exact ⟨((x1_1.extract 0 (t430 : Int).toNat) ++ (x1_1.extract ((ji44) : Int).toNat x1_1.size)), (wrap64 (x7_1 - 1)), (t440), (t441), (by first | rfl | (simp; done) | (simp only [← hji44] <;> (first | rfl | simp)) | (simp [*]; done)), sr_, H', ⟨by have := HK1.out; have := HJ5.out; omega⟩, ⟨IsS48.q HI0⟩, ⟨hk_ HK⟩, ⟨hbI_ HB (IsS48.ge HI0.out)⟩⟩

/-! ### spec_DrawParseRule: function 7 -/
def spec_DrawParseRule.l0 : Nat → ByteArray → Option (ByteArray)
 | 0, _ => none
 | k + 1, x4 => if (x4.size : Int) < 597 then (if 2 + x4.size ≤ 9223372036854775807 then (if ((⟨#[40, 32]⟩ : ByteArray) ++ x4).size + 2 ≤ 9223372036854775807 then (spec_DrawParseRule.l0 k (((⟨#[40, 32]⟩ : ByteArray) ++ x4) ++ (⟨#[32, 41]⟩ : ByteArray))) else (none)) else (none)) else (some x4)
theorem spec_DrawParseRule.e0 (k : Nat) (x4 : ByteArray) : spec_DrawParseRule.l0 (k + 1) x4 = (if (x4.size : Int) < 597 then (if 2 + x4.size ≤ 9223372036854775807 then (if ((⟨#[40, 32]⟩ : ByteArray) ++ x4).size + 2 ≤ 9223372036854775807 then (spec_DrawParseRule.l0 k (((⟨#[40, 32]⟩ : ByteArray) ++ x4) ++ (⟨#[32, 41]⟩ : ByteArray))) else (none)) else (none)) else (some x4)) := rfl
theorem spec_DrawParseRule.z0 (x : ByteArray) : spec_DrawParseRule.l0 0 x = none := rfl
def spec_DrawParseRule.f (k : Nat) (l0 : List Int) : Option (ByteArray) := (spec_l1Cur_pick.f l0 0 0 3).bind fun bt443 => ((spec_l1Cur_wording.f k l0 bt443.2.1 bt443.2.2 (wrap64 (1 + bt443.1))).bind fun bt446 => ((spec_l1Cur_pick.f l0 bt446.2.1 bt446.2.2 8).bind fun bt449 => (if bt449.1 = 0 then ((spec_l1Cur_spoilt.f k l0 bt449.2.1 bt449.2.2 bt446.1 (⟨#[40, 41, 32, 105, 102, 116, 104, 101, 110, 43, 42, 48]⟩ : ByteArray)).bind fun bt452 => (some bt452.1)) else (if bt449.1 = 1 then ((spec_l1Cur_pick.f l0 bt449.2.1 bt449.2.2 (wrap64 ((bt446.1.size : Int) + 1))).bind fun bt455 => (if 0 ≤ bt455.1 then (if bt455.1 ≤ (bt446.1.size : Int) then (some (bt446.1.extract 0 (bt455.1 : Int).toNat)) else (none)) else (none))) else (if bt449.1 = 2 then ((spec_l1Cur_of.f l0 bt449.2.1 bt449.2.2 (([⟨#[32]⟩, ⟨#[32, 41]⟩, ⟨#[32, 43]⟩, ⟨#[32, 101, 108, 115, 101, 32, 49]⟩, ⟨#[32, 48, 49]⟩, ⟨#[32, 49, 48, 48, 48, 48, 48, 49]⟩] : List ByteArray))).bind fun bt461 => (if bt446.1.size + bt461.1.size ≤ 9223372036854775807 then (some (bt446.1 ++ bt461.1)) else (none))) else (if bt449.1 = 3 then ((spec_l1Cur_one.f l0 bt449.2.1 bt449.2.2 4).bind fun bt464 => (if bt464.1 = true then (spec_DrawParseRule.l0 k bt446.1) else (some bt446.1))) else (some bt446.1)))))))
theorem spec_DrawParseRule.calls (k : Nat) (A0 : Option Addr) (c0 : Nat) (l0 : List Int) (r : ByteArray) (w : World) (hr0 : Kd.C (Kd.int .u8) w A0 l0.length l0) (hc0 : l0.length ≤ c0) (h : spec_DrawParseRule.f k l0 = some r) :
  Calls Tryz.prog 7 #[.slice A0 l0.length c0] w fun e w' => e = .returned (.string r) ∧ Below w.heap.size w w' := by
 have hu48 := Tryz.underlying48
 have HR0 := am_ hr0
 have HC0 := am_ hc0
 clear hr0 hc0
 have HB := am_ (Below.refl w.heap.size w)
 have H := h
 unfold spec_DrawParseRule.f at H
 clear h
 revert H; refine bn_ ?_; rintro ⟨t443, t444, t445⟩ A2 H; try dsimp only at H
 revert H; refine bn_ ?_; rintro ⟨t446, t447, t448⟩ A3 H; try dsimp only at H
 revert H; refine bn_ ?_; rintro ⟨t449, t450, t451⟩ A4 H; try dsimp only at H
 by_cases c5 : t449 = 0
 ·rw [if_pos c5] at H
  have c5b0 : (t449 == 0) = true := beq_iff_eq.mpr c5
  have c5b1 : (t449 != 0) = false := bne_eq_false_iff_eq.mpr c5
  clear c5
  revert H; refine bn_ ?_; rintro ⟨t452, t453, t454⟩ A6 H; try dsimp only at H
  obtain rfl := Option.some.inj H
  go_enter Tryz.func7, Tryz.ntmps7
  go_wp2_with (first | ((with_reducible refine gate_dst (N := 7) rfl ?_); refine bv_ 7 (cs := #[.slice A0 l0.length c0, .int .i64 0, .int .u64 0]) (t := 48) ?_; intro gb442 hg w7 hbox hb; have HI442 := am_ ((show IsS48 w w7 gb442 l0 0 0 from ⟨A0, c0, hbox, (by rw [hg]; exact (below_size (hb_ HB))), HR0.out⟩)); have GW442 := gs_ hg HB; have GE442 := gs_ hg HB; replace HB := hbs_ HB hb; clear hb hbox hg) | ((with_reducible refine gk_ 29 ?_); refine gq_ 10 Tryz.func29 #[.pointer (some ⟨gb442, 0, none⟩), .int .i64 3] ?_; (with_reducible refine (spec_l1Cur_pick.calls gb442 l0 0 0 3 t443 t444 t445 w _ ?_ ?_ A2.out).mono ?_); exact IsS48.q HI442; exact hbI_ HB (IsS48.ge HI442.out); rintro e w8 ⟨rfl, hi, hb, hk⟩; refine ⟨_, rfl, ?_⟩; replace HB := am_ (hb); replace HI442 := am_ (hi)) | ((with_reducible refine gk_ 28 ?_); refine gq_ 12 Tryz.func28 #[.pointer (some ⟨gb442, 0, none⟩), .int .i64 (wrap64 (1 + t443))] ?_; (with_reducible refine (spec_l1Cur_wording.calls k gb442 l0 t444 t445 (wrap64 (1 + t443)) t446 t447 t448 w _ ?_ ?_ A3.out).mono ?_); exact IsS48.q HI442; exact hbI_ HB (IsS48.ge HI442.out); rintro e w9 ⟨rfl, hi, hb, hk⟩; refine ⟨_, rfl, ?_⟩; replace HB := am_ (hb); replace HI442 := am_ (hi)) | ((with_reducible refine gk_ 29 ?_); refine gq_ 14 Tryz.func29 #[.pointer (some ⟨gb442, 0, none⟩), .int .i64 8] ?_; (with_reducible refine (spec_l1Cur_pick.calls gb442 l0 t447 t448 8 t449 t450 t451 w _ ?_ ?_ A4.out).mono ?_); exact IsS48.q HI442; exact hbI_ HB (IsS48.ge HI442.out); rintro e w10 ⟨rfl, hi, hb, hk⟩; refine ⟨_, rfl, ?_⟩; replace HB := am_ (hb); replace HI442 := am_ (hi)) | ((with_reducible refine gk_ 30 ?_); refine gq_ 19 Tryz.func30 #[.pointer (some ⟨gb442, 0, none⟩), .string t446, .string ⟨#[40, 41, 32, 105, 102, 116, 104, 101, 110, 43, 42, 48]⟩] ?_; (with_reducible refine (spec_l1Cur_spoilt.calls k gb442 l0 t450 t451 t446 (⟨#[40, 41, 32, 105, 102, 116, 104, 101, 110, 43, 42, 48]⟩ : ByteArray) t452 t453 t454 w _ ?_ ?_ A6.out).mono ?_); exact IsS48.q HI442; exact hbI_ HB (IsS48.ge HI442.out); rintro e w11 ⟨rfl, hi, hb, hk⟩; refine ⟨_, rfl, ?_⟩; replace HB := am_ (hb); replace HI442 := am_ (hi)))
  go_ret
  exact ⟨se_, hbI_ HB (IsS48.ge HI442.out)⟩
 rw [if_neg c5] at H
 have c5b0 : (t449 == 0) = false := beq_eq_false_iff_ne.mpr c5
 have c5b1 : (t449 != 0) = true := bne_iff_ne.mpr c5
 by_cases c12 : t449 = 1
 ·rw [if_pos c12] at H
  have c12b0 : (t449 == 1) = true := beq_iff_eq.mpr c12
  have c12b1 : (t449 != 1) = false := bne_eq_false_iff_eq.mpr c12
  clear c12
  revert H; refine bn_ ?_; rintro ⟨t455, t456, t457⟩ A13 H; try dsimp only at H
  revert H; refine pf_ fun c14 H => ?_
  have c14b0 := eq_true c14
  have c14b1 := decide_eq_true c14
  clear c14
  revert H; refine pf_ fun c15 H => ?_
  have c15b0 := eq_true c15
  have c15b1 := decide_eq_true c15
  clear c15
  obtain rfl := Option.some.inj H
  go_enter Tryz.func7, Tryz.ntmps7
  go_wp2_with (first | ((with_reducible refine gate_dst (N := 7) rfl ?_); refine bv_ 7 (cs := #[.slice A0 l0.length c0, .int .i64 0, .int .u64 0]) (t := 48) ?_; intro gb442 hg w16 hbox hb; have HI442 := am_ ((show IsS48 w w16 gb442 l0 0 0 from ⟨A0, c0, hbox, (by rw [hg]; exact (below_size (hb_ HB))), HR0.out⟩)); have GW442 := gs_ hg HB; have GE442 := gs_ hg HB; replace HB := hbs_ HB hb; clear hb hbox hg) | ((with_reducible refine gk_ 29 ?_); refine gq_ 10 Tryz.func29 #[.pointer (some ⟨gb442, 0, none⟩), .int .i64 3] ?_; (with_reducible refine (spec_l1Cur_pick.calls gb442 l0 0 0 3 t443 t444 t445 w _ ?_ ?_ A2.out).mono ?_); exact IsS48.q HI442; exact hbI_ HB (IsS48.ge HI442.out); rintro e w17 ⟨rfl, hi, hb, hk⟩; refine ⟨_, rfl, ?_⟩; replace HB := am_ (hb); replace HI442 := am_ (hi)) | ((with_reducible refine gk_ 28 ?_); refine gq_ 12 Tryz.func28 #[.pointer (some ⟨gb442, 0, none⟩), .int .i64 (wrap64 (1 + t443))] ?_; (with_reducible refine (spec_l1Cur_wording.calls k gb442 l0 t444 t445 (wrap64 (1 + t443)) t446 t447 t448 w _ ?_ ?_ A3.out).mono ?_); exact IsS48.q HI442; exact hbI_ HB (IsS48.ge HI442.out); rintro e w18 ⟨rfl, hi, hb, hk⟩; refine ⟨_, rfl, ?_⟩; replace HB := am_ (hb); replace HI442 := am_ (hi)) | ((with_reducible refine gk_ 29 ?_); refine gq_ 14 Tryz.func29 #[.pointer (some ⟨gb442, 0, none⟩), .int .i64 8] ?_; (with_reducible refine (spec_l1Cur_pick.calls gb442 l0 t447 t448 8 t449 t450 t451 w _ ?_ ?_ A4.out).mono ?_); exact IsS48.q HI442; exact hbI_ HB (IsS48.ge HI442.out); rintro e w19 ⟨rfl, hi, hb, hk⟩; refine ⟨_, rfl, ?_⟩; replace HB := am_ (hb); replace HI442 := am_ (hi)) | ((with_reducible refine gk_ 29 ?_); refine gq_ 27 Tryz.func29 #[.pointer (some ⟨gb442, 0, none⟩), .int .i64 (wrap64 ((t446.size : Int) + 1))] ?_; (with_reducible refine (spec_l1Cur_pick.calls gb442 l0 t450 t451 (wrap64 ((t446.size : Int) + 1)) t455 t456 t457 w _ ?_ ?_ A13.out).mono ?_); exact IsS48.q HI442; exact hbI_ HB (IsS48.ge HI442.out); rintro e w20 ⟨rfl, hi, hb, hk⟩; refine ⟨_, rfl, ?_⟩; replace HB := am_ (hb); replace HI442 := am_ (hi)))
  go_ret
  exact ⟨se_, hbI_ HB (IsS48.ge HI442.out)⟩
 rw [if_neg c12] at H
 have c12b0 : (t449 == 1) = false := beq_eq_false_iff_ne.mpr c12
 have c12b1 : (t449 != 1) = true := bne_iff_ne.mpr c12
 by_cases c21 : t449 = 2
 ·rw [if_pos c21] at H
  have c21b0 : (t449 == 2) = true := beq_iff_eq.mpr c21
  have c21b1 : (t449 != 2) = false := bne_eq_false_iff_eq.mpr c21
  clear c21
  obtain ⟨y458, hy458⟩ : ∃ y_ : List ByteArray, y_ = (([⟨#[32]⟩, ⟨#[32, 41]⟩, ⟨#[32, 43]⟩, ⟨#[32, 101, 108, 115, 101, 32, 49]⟩, ⟨#[32, 48, 49]⟩, ⟨#[32, 49, 48, 48, 48, 48, 48, 49]⟩] : List ByteArray)) := ⟨_, rfl⟩
  (try with_reducible replace H := (Option.bind_some _ _).symm.trans H); (try dsimp only at H); (try rw [← hy458] at H)
  have Ny458 := am_ hy458
  clear hy458
  revert H; refine bn_ ?_; rintro ⟨t461, t462, t463⟩ A22 H; try dsimp only at H
  revert H; refine pf_ fun c23 H => ?_
  have c23b0 := eq_true c23
  have c23b1 := decide_eq_true c23
  try have c23b2 : (9223372036854775807 < t446.size + t461.size) = False := eq_false (Nat.not_lt.2 c23)
  obtain rfl := Option.some.inj H
  go_enter Tryz.func7, Tryz.ntmps7
  go_wp2_with (first | ((with_reducible refine gate_dst (N := 7) rfl ?_); refine bv_ 7 (cs := #[.slice A0 l0.length c0, .int .i64 0, .int .u64 0]) (t := 48) ?_; intro gb442 hg w24 hbox hb; have HI442 := am_ ((show IsS48 w w24 gb442 l0 0 0 from ⟨A0, c0, hbox, (by rw [hg]; exact (below_size (hb_ HB))), HR0.out⟩)); have GW442 := gs_ hg HB; have GE442 := gs_ hg HB; replace HB := hbs_ HB hb; clear hb hbox hg) | ((with_reducible refine gk_ 29 ?_); refine gq_ 10 Tryz.func29 #[.pointer (some ⟨gb442, 0, none⟩), .int .i64 3] ?_; (with_reducible refine (spec_l1Cur_pick.calls gb442 l0 0 0 3 t443 t444 t445 w _ ?_ ?_ A2.out).mono ?_); exact IsS48.q HI442; exact hbI_ HB (IsS48.ge HI442.out); rintro e w25 ⟨rfl, hi, hb, hk⟩; refine ⟨_, rfl, ?_⟩; replace HB := am_ (hb); replace HI442 := am_ (hi)) | ((with_reducible refine gk_ 28 ?_); refine gq_ 12 Tryz.func28 #[.pointer (some ⟨gb442, 0, none⟩), .int .i64 (wrap64 (1 + t443))] ?_; (with_reducible refine (spec_l1Cur_wording.calls k gb442 l0 t444 t445 (wrap64 (1 + t443)) t446 t447 t448 w _ ?_ ?_ A3.out).mono ?_); exact IsS48.q HI442; exact hbI_ HB (IsS48.ge HI442.out); rintro e w26 ⟨rfl, hi, hb, hk⟩; refine ⟨_, rfl, ?_⟩; replace HB := am_ (hb); replace HI442 := am_ (hi)) | ((with_reducible refine gk_ 29 ?_); refine gq_ 14 Tryz.func29 #[.pointer (some ⟨gb442, 0, none⟩), .int .i64 8] ?_; (with_reducible refine (spec_l1Cur_pick.calls gb442 l0 t447 t448 8 t449 t450 t451 w _ ?_ ?_ A4.out).mono ?_); exact IsS48.q HI442; exact hbI_ HB (IsS48.ge HI442.out); rintro e w27 ⟨rfl, hi, hb, hk⟩; refine ⟨_, rfl, ?_⟩; replace HB := am_ (hb); replace HI442 := am_ (hi)) | ((with_reducible refine gate_dst (N := 33) rfl ?_); refine Kd.R_lit Kd.string _ 9 ?hg (N := 33) ?hd (xs := ([⟨#[32]⟩, ⟨#[32, 41]⟩, ⟨#[32, 43]⟩, ⟨#[32, 101, 108, 115, 101, 32, 49]⟩, ⟨#[32, 48, 49]⟩, ⟨#[32, 49, 48, 48, 48, 48, 48, 49]⟩] : List ByteArray)) (inner := [.string ⟨#[32]⟩, .string ⟨#[32, 41]⟩, .string ⟨#[32, 43]⟩, .string ⟨#[32, 101, 108, 115, 101, 32, 49]⟩, .string ⟨#[32, 48, 49]⟩, .string ⟨#[32, 49, 48, 48, 48, 48, 48, 49]⟩]) (ok := fun _ => True) (okp := fun _ => True) ?hr ?hp (fun _ hk => hk) trivial (Below.refl _ _) (Nat.le_refl _) (by simp) ?_; (case hd => rfl); (case hg => rfl); (case hr => first | (go_simp; done) | (go_simp; rfl)); (case hp => exact (Reps.one (show Kd.M Kd.string _ _ _ (⟨#[32]⟩ : ByteArray) [.string ⟨#[32]⟩] from rfl) (Reps.one (show Kd.M Kd.string _ _ _ (⟨#[32, 41]⟩ : ByteArray) [.string ⟨#[32, 41]⟩] from rfl) (Reps.one (show Kd.M Kd.string _ _ _ (⟨#[32, 43]⟩ : ByteArray) [.string ⟨#[32, 43]⟩] from rfl) (Reps.one (show Kd.M Kd.string _ _ _ (⟨#[32, 101, 108, 115, 101, 32, 49]⟩ : ByteArray) [.string ⟨#[32, 101, 108, 115, 101, 32, 49]⟩] from rfl) (Reps.one (show Kd.M Kd.string _ _ _ (⟨#[32, 48, 49]⟩ : ByteArray) [.string ⟨#[32, 48, 49]⟩] from rfl) (Reps.one (show Kd.M Kd.string _ _ _ (⟨#[32, 49, 48, 48, 48, 48, 48, 49]⟩ : ByteArray) [.string ⟨#[32, 49, 48, 48, 48, 48, 48, 49]⟩] from rfl) (Reps.none _ _)))))))); intro v459 w28 ho29 hb hg_ hnew_; clear hg_ hnew_; (first | rw [← Ny458.out] at ho29 | (simp only [Int.reduceToNat] at ho29; rw [← Ny458.out] at ho29)); have HO460 := am_ (Kd.R_lower ho29 (below_size (hbI_ HB (IsS48.ge HI442.out)))); replace HB := am_ (below_step (hbI_ HB (IsS48.ge HI442.out)) hb); replace HI442 := IsS48.b HI442 hb; clear hb ho29; obtain ⟨Ao30, co30, eo30⟩ := Kd.R_slice HO460.out; subst eo30) | ((with_reducible refine gk_ 31 ?_); refine gq_ 34 Tryz.func31 #[.pointer (some ⟨gb442, 0, none⟩), .slice Ao30 y458.length co30] ?_; (with_reducible refine (spec_l1Cur_of.calls gb442 l0 t450 t451 _ _ y458 t461 t462 t463 w _ ?_ ?_ ?_ ?_ ?_ A22.out).mono ?_); exact IsS48.q HI442; exact hbI_ HB (IsS48.ge HI442.out); exact Kd.C_o HO460; exact (Kd.R_reads' HO460.out).2.1; exact far_slice (IsS48.own_ne HI442.out HO460.out (by decide)); rintro e w31 ⟨rfl, hi, hb, hk⟩; refine ⟨_, rfl, ?_⟩; replace HO460 := IsS48.rk HI442 HO460 hk; replace HB := am_ (hb); replace HI442 := am_ (hi)))
  go_ret
  exact ⟨se_, hbI_ HB (IsS48.ge HI442.out)⟩
 rw [if_neg c21] at H
 have c21b0 : (t449 == 2) = false := beq_eq_false_iff_ne.mpr c21
 have c21b1 : (t449 != 2) = true := bne_iff_ne.mpr c21
 by_cases c32 : t449 = 3
 ·rw [if_pos c32] at H
  have c32b0 : (t449 == 3) = true := beq_iff_eq.mpr c32
  have c32b1 : (t449 != 3) = false := bne_eq_false_iff_eq.mpr c32
  clear c32
  revert H; refine bn_ ?_; rintro ⟨t464, t465, t466⟩ A33 H; try dsimp only at H
  by_cases c34 : t464 = true
  ·subst c34
   rw [if_pos rfl] at H
   have H' := am_ H
   clear H
   go_enter Tryz.func7, Tryz.ntmps7
   go_wp2_with (first | ((with_reducible refine gate_dst (N := 7) rfl ?_); refine bv_ 7 (cs := #[.slice A0 l0.length c0, .int .i64 0, .int .u64 0]) (t := 48) ?_; intro gb442 hg w35 hbox hb; have HI442 := am_ ((show IsS48 w w35 gb442 l0 0 0 from ⟨A0, c0, hbox, (by rw [hg]; exact (below_size (hb_ HB))), HR0.out⟩)); have GW442 := gs_ hg HB; have GE442 := gs_ hg HB; replace HB := hbs_ HB hb; clear hb hbox hg) | ((with_reducible refine gk_ 29 ?_); refine gq_ 10 Tryz.func29 #[.pointer (some ⟨gb442, 0, none⟩), .int .i64 3] ?_; (with_reducible refine (spec_l1Cur_pick.calls gb442 l0 0 0 3 t443 t444 t445 w _ ?_ ?_ A2.out).mono ?_); exact IsS48.q HI442; exact hbI_ HB (IsS48.ge HI442.out); rintro e w36 ⟨rfl, hi, hb, hk⟩; refine ⟨_, rfl, ?_⟩; replace HB := am_ (hb); replace HI442 := am_ (hi)) | ((with_reducible refine gk_ 28 ?_); refine gq_ 12 Tryz.func28 #[.pointer (some ⟨gb442, 0, none⟩), .int .i64 (wrap64 (1 + t443))] ?_; (with_reducible refine (spec_l1Cur_wording.calls k gb442 l0 t444 t445 (wrap64 (1 + t443)) t446 t447 t448 w _ ?_ ?_ A3.out).mono ?_); exact IsS48.q HI442; exact hbI_ HB (IsS48.ge HI442.out); rintro e w37 ⟨rfl, hi, hb, hk⟩; refine ⟨_, rfl, ?_⟩; replace HB := am_ (hb); replace HI442 := am_ (hi)) | ((with_reducible refine gk_ 29 ?_); refine gq_ 14 Tryz.func29 #[.pointer (some ⟨gb442, 0, none⟩), .int .i64 8] ?_; (with_reducible refine (spec_l1Cur_pick.calls gb442 l0 t447 t448 8 t449 t450 t451 w _ ?_ ?_ A4.out).mono ?_); exact IsS48.q HI442; exact hbI_ HB (IsS48.ge HI442.out); rintro e w38 ⟨rfl, hi, hb, hk⟩; refine ⟨_, rfl, ?_⟩; replace HB := am_ (hb); replace HI442 := am_ (hi)) | ((with_reducible refine gk_ 32 ?_); refine gq_ 39 Tryz.func32 #[.pointer (some ⟨gb442, 0, none⟩), .int .i64 4] ?_; (with_reducible refine (spec_l1Cur_one.calls gb442 l0 t450 t451 4 true t465 t466 w _ ?_ ?_ A33.out).mono ?_); exact IsS48.q HI442; exact hbI_ HB (IsS48.ge HI442.out); rintro e w39 ⟨rfl, hi, hb, hk⟩; refine ⟨_, rfl, ?_⟩; replace HB := am_ (hb); replace HI442 := am_ (hi)))
   try simp only [Act.put, List.setIfInBounds_toArray, List.set_cons_zero, List.set_cons_succ]
   go_loopg [4] k (fun kq v4 w' => ∃ (x4_1 : ByteArray), v4 = .string x4_1 ∧ Aside0 (spec_DrawParseRule.l0 kq x4_1 = some r) ∧ Aside0 (kq ≤ k) ∧ Aside0 (Below w.heap.size w w'))
   case atStart => exact ⟨(t446), sr_, H', ⟨Nat.le_refl _⟩, ⟨hbI_ HB (IsS48.ge HI442.out)⟩⟩
   clear H'
   obtain ⟨x4_1, rfl, HA, HK1, HB⟩ := hrel
   cases gk with
   | zero => exact absurd HA.out (by simp [spec_DrawParseRule.z0])
   | succ k1 => ?_
   have H := HA.out
   clear HA
   rw [spec_DrawParseRule.e0] at H
   by_cases c40 : (x4_1.size : Int) < 597
   case neg => rw [if_neg c40] at H; have c40b0 := decide_eq_false c40; have c40b1 : decide (x4_1.size < 597) = false := decide_eq_false (by omega); clear c40; obtain rfl := Option.some.inj H; go_wp2; go_ret; exact ad_ (hb_ HB)
   rw [if_pos c40] at H
   have c40b0 := decide_eq_true c40
   have c40b1 : decide (x4_1.size < 597) = true := decide_eq_true (by omega)
   clear c40
   revert H; refine pf_ fun c41 H => ?_
   have c41b0 := eq_true c41
   have c41b1 := decide_eq_true c41
   try have c41b2 : (9223372036854775807 < 2 + x4_1.size) = False := eq_false (Nat.not_lt.2 c41)
   revert H; refine pf_ fun c42 H => ?_
   have c42b0 := eq_true c42
   have c42b1 := decide_eq_true c42
   try have c42b2 : (9223372036854775807 < ((⟨#[40, 32]⟩ : ByteArray) ++ x4_1).size + 2) = False := eq_false (Nat.not_lt.2 c42)
   have c42b3 : (9223372036854775807 < 2 + x4_1.size + 2) = False := eq_false (Nat.not_lt.2 (by have h_ := c42; simp only [ByteArray.size_append] at h_; exact h_))
   have H' := am_ H
   clear H
   go_wp2
   go_roundg k1
   case measure => have := HK1.out; omega
   case rel => exact ⟨(((⟨#[40, 32]⟩ : ByteArray) ++ x4_1) ++ (⟨#[32, 41]⟩ : ByteArray)), sr_, H', ⟨by have := HK1.out; omega⟩, ⟨hb_ HB⟩⟩
  replace c34 := Bool.eq_false_iff.mpr c34
  subst c34
  rw [if_neg (show ¬ (false = true) by decide)] at H
  obtain rfl := Option.some.inj H
  go_enter Tryz.func7, Tryz.ntmps7
  go_wp2_with (first | ((with_reducible refine gate_dst (N := 7) rfl ?_); refine bv_ 7 (cs := #[.slice A0 l0.length c0, .int .i64 0, .int .u64 0]) (t := 48) ?_; intro gb442 hg w43 hbox hb; have HI442 := am_ ((show IsS48 w w43 gb442 l0 0 0 from ⟨A0, c0, hbox, (by rw [hg]; exact (below_size (hb_ HB))), HR0.out⟩)); have GW442 := gs_ hg HB; have GE442 := gs_ hg HB; replace HB := hbs_ HB hb; clear hb hbox hg) | ((with_reducible refine gk_ 29 ?_); refine gq_ 10 Tryz.func29 #[.pointer (some ⟨gb442, 0, none⟩), .int .i64 3] ?_; (with_reducible refine (spec_l1Cur_pick.calls gb442 l0 0 0 3 t443 t444 t445 w _ ?_ ?_ A2.out).mono ?_); exact IsS48.q HI442; exact hbI_ HB (IsS48.ge HI442.out); rintro e w44 ⟨rfl, hi, hb, hk⟩; refine ⟨_, rfl, ?_⟩; replace HB := am_ (hb); replace HI442 := am_ (hi)) | ((with_reducible refine gk_ 28 ?_); refine gq_ 12 Tryz.func28 #[.pointer (some ⟨gb442, 0, none⟩), .int .i64 (wrap64 (1 + t443))] ?_; (with_reducible refine (spec_l1Cur_wording.calls k gb442 l0 t444 t445 (wrap64 (1 + t443)) t446 t447 t448 w _ ?_ ?_ A3.out).mono ?_); exact IsS48.q HI442; exact hbI_ HB (IsS48.ge HI442.out); rintro e w45 ⟨rfl, hi, hb, hk⟩; refine ⟨_, rfl, ?_⟩; replace HB := am_ (hb); replace HI442 := am_ (hi)) | ((with_reducible refine gk_ 29 ?_); refine gq_ 14 Tryz.func29 #[.pointer (some ⟨gb442, 0, none⟩), .int .i64 8] ?_; (with_reducible refine (spec_l1Cur_pick.calls gb442 l0 t447 t448 8 t449 t450 t451 w _ ?_ ?_ A4.out).mono ?_); exact IsS48.q HI442; exact hbI_ HB (IsS48.ge HI442.out); rintro e w46 ⟨rfl, hi, hb, hk⟩; refine ⟨_, rfl, ?_⟩; replace HB := am_ (hb); replace HI442 := am_ (hi)) | ((with_reducible refine gk_ 32 ?_); refine gq_ 39 Tryz.func32 #[.pointer (some ⟨gb442, 0, none⟩), .int .i64 4] ?_; (with_reducible refine (spec_l1Cur_one.calls gb442 l0 t450 t451 4 false t465 t466 w _ ?_ ?_ A33.out).mono ?_); exact IsS48.q HI442; exact hbI_ HB (IsS48.ge HI442.out); rintro e w47 ⟨rfl, hi, hb, hk⟩; refine ⟨_, rfl, ?_⟩; replace HB := am_ (hb); replace HI442 := am_ (hi)))
  go_ret
  exact ⟨se_, hbI_ HB (IsS48.ge HI442.out)⟩
 rw [if_neg c32] at H
 have c32b0 : (t449 == 3) = false := beq_eq_false_iff_ne.mpr c32
 have c32b1 : (t449 != 3) = true := bne_iff_ne.mpr c32
 obtain rfl := Option.some.inj H
 go_enter Tryz.func7, Tryz.ntmps7
 go_wp2_with (first | ((with_reducible refine gate_dst (N := 7) rfl ?_); refine bv_ 7 (cs := #[.slice A0 l0.length c0, .int .i64 0, .int .u64 0]) (t := 48) ?_; intro gb442 hg w48 hbox hb; have HI442 := am_ ((show IsS48 w w48 gb442 l0 0 0 from ⟨A0, c0, hbox, (by rw [hg]; exact (below_size (hb_ HB))), HR0.out⟩)); have GW442 := gs_ hg HB; have GE442 := gs_ hg HB; replace HB := hbs_ HB hb; clear hb hbox hg) | ((with_reducible refine gk_ 29 ?_); refine gq_ 10 Tryz.func29 #[.pointer (some ⟨gb442, 0, none⟩), .int .i64 3] ?_; (with_reducible refine (spec_l1Cur_pick.calls gb442 l0 0 0 3 t443 t444 t445 w _ ?_ ?_ A2.out).mono ?_); exact IsS48.q HI442; exact hbI_ HB (IsS48.ge HI442.out); rintro e w49 ⟨rfl, hi, hb, hk⟩; refine ⟨_, rfl, ?_⟩; replace HB := am_ (hb); replace HI442 := am_ (hi)) | ((with_reducible refine gk_ 28 ?_); refine gq_ 12 Tryz.func28 #[.pointer (some ⟨gb442, 0, none⟩), .int .i64 (wrap64 (1 + t443))] ?_; (with_reducible refine (spec_l1Cur_wording.calls k gb442 l0 t444 t445 (wrap64 (1 + t443)) t446 t447 t448 w _ ?_ ?_ A3.out).mono ?_); exact IsS48.q HI442; exact hbI_ HB (IsS48.ge HI442.out); rintro e w50 ⟨rfl, hi, hb, hk⟩; refine ⟨_, rfl, ?_⟩; replace HB := am_ (hb); replace HI442 := am_ (hi)) | ((with_reducible refine gk_ 29 ?_); refine gq_ 14 Tryz.func29 #[.pointer (some ⟨gb442, 0, none⟩), .int .i64 8] ?_; (with_reducible refine (spec_l1Cur_pick.calls gb442 l0 t447 t448 8 t449 t450 t451 w _ ?_ ?_ A4.out).mono ?_); exact IsS48.q HI442; exact hbI_ HB (IsS48.ge HI442.out); rintro e w51 ⟨rfl, hi, hb, hk⟩; refine ⟨_, rfl, ?_⟩; replace HB := am_ (hb); replace HI442 := am_ (hi)))
 go_ret
 exact ⟨se_, hbI_ HB (IsS48.ge HI442.out)⟩

/-! ### strings_Index: function 53 -/
def strings_Index.f (a0 a1 : ByteArray) : Option Int := if a0.size ≤ 4294967280 then some (Lib.index a0.data.toList a1.data.toList) else none
theorem strings_Index.calls (a0 a1 : ByteArray) (r : Int) (w : World) (h : strings_Index.f a0 a1 = some r) (hL : LaidW w) :
  Calls Tryz.prog 53 #[.string a0, .string a1] w fun e w' => e = .returned (.int .i64 r) ∧ Drawn0 w w' := by
 unfold strings_Index.f at h
 by_cases h0 : a0.size ≤ 4294967280
 ·rw [if_pos h0] at h
  obtain rfl := Option.some.inj h
  obtain ⟨⟨m, hm⟩, _⟩ := hL
  refine (Tryz.strings_Index a0 a1 m w (by omega) hm).mono ?_
  rintro e w' ⟨he, hw⟩
  rw [hw]
  exact ⟨he, Drawn0.refl _⟩
 rw [if_neg h0] at h; cases h

end Go.Proofs.YtihjlepgmppedaaGreatDoor.PFnRules
