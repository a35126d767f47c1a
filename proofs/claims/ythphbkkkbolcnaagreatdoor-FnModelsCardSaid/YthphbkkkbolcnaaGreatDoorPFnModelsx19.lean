-- Laid for this claim by wip/tools/print2.sh, a changed copy of the kit's print (wip/tools/patch_print.py): not by print.sh. Changed by wip/fix/strsize.py.
import Derived.Test.YthphbkkkbolcnaaGreatDoorPFnModelsx3
import Derived.Test.YthphbkkkbolcnaaGreatDoorPFnModelsx9
import Derived.Test.YthphbkkkbolcnaaGreatDoorVFnModels
namespace Go.Proofs.YthphbkkkbolcnaaGreatDoor.PFnModels
set_option maxHeartbeats 8000000
set_option maxRecDepth 100000
open Go.RowKit Go.Proofs.YthphbkkkbolcnaaGreatDoorW.PrintWords Go.Proofs.YthphbkkkbolcnaaGreatDoorW.PrintLast Go.Proofs.YthphbkkkbolcnaaGreatDoorW.PrintMore
set_option linter.unusedVariables false
set_option linter.unusedSimpArgs false

/-! ### spec_l1Cur_spoilt: function 52 -/
mutual
def spec_l1Cur_spoilt.l0 : Nat → ByteArray → ByteArray → Int → List Int → Int → Int → Option (ByteArray × Int × Int)
 | 0, _, _, _, _, _, _ => none
 | k + 1, x1, x2, x7, x1000, x1001, x1002 => if x7 > 0 then (spec_l1Cur_spoilt.j1 k x1 x2 x7 (decide ((x1.size : Int) > 0)) x1000 x1001 x1002) else (spec_l1Cur_spoilt.j1 k x1 x2 x7 false x1000 x1001 x1002)
def spec_l1Cur_spoilt.j1 : Nat → ByteArray → ByteArray → Int → Bool → List Int → Int → Int → Option (ByteArray × Int × Int)
 | 0, _, _, _, _, _, _, _ => none
 | k + 1, x1, x2, x7, x19, x1000, x1001, x1002 => if x19 = true then ((spec_l1Cur_pick.f x1000 x1001 x1002 (x1.size : Int)).bind fun bt680 => ((spec_l1Cur_pick.f x1000 bt680.2.1 bt680.2.2 (x2.size : Int)).bind fun bt683 => (if 0 ≤ bt683.1 then (if bt683.1 < (x2.size : Int) then ((some (([bt x2 bt683.1] : List Int) : List Int)).bind fun y686 => ((spec_l1Cur_pick.f x1000 bt683.2.1 bt683.2.2 3).bind fun bt689 => (if bt689.1 = 0 then (if 0 ≤ bt680.1 then (if bt680.1 ≤ (x1.size : Int) then (if (x1.extract 0 (bt680.1 : Int).toNat).size + (strOfNums y686).size ≤ 9223372036854775807 then (if ((x1.extract 0 (bt680.1 : Int).toNat) ++ (strOfNums y686)).size + (x1.extract (bt680.1 : Int).toNat x1.size).size ≤ 9223372036854775807 then (spec_l1Cur_spoilt.l0 k (((x1.extract 0 (bt680.1 : Int).toNat) ++ (strOfNums y686)) ++ (x1.extract (bt680.1 : Int).toNat x1.size)) x2 (wrap64 (x7 - 1)) x1000 bt689.2.1 bt689.2.2) else (none)) else (none)) else (none)) else (none)) else (if bt689.1 = 1 then (if 0 ≤ bt680.1 then (if bt680.1 ≤ (x1.size : Int) then (if (x1.extract 0 (bt680.1 : Int).toNat).size + (strOfNums y686).size ≤ 9223372036854775807 then (if 0 ≤ (wrap64 (bt680.1 + 1)) then (if (wrap64 (bt680.1 + 1)) ≤ (x1.size : Int) then (if ((x1.extract 0 (bt680.1 : Int).toNat) ++ (strOfNums y686)).size + (x1.extract ((wrap64 (bt680.1 + 1)) : Int).toNat x1.size).size ≤ 9223372036854775807 then (spec_l1Cur_spoilt.l0 k (((x1.extract 0 (bt680.1 : Int).toNat) ++ (strOfNums y686)) ++ (x1.extract ((wrap64 (bt680.1 + 1)) : Int).toNat x1.size)) x2 (wrap64 (x7 - 1)) x1000 bt689.2.1 bt689.2.2) else (none)) else (none)) else (none)) else (none)) else (none)) else (none)) else (if 0 ≤ bt680.1 then (if bt680.1 ≤ (x1.size : Int) then (if 0 ≤ (wrap64 (bt680.1 + 1)) then (if (wrap64 (bt680.1 + 1)) ≤ (x1.size : Int) then (if (x1.extract 0 (bt680.1 : Int).toNat).size + (x1.extract ((wrap64 (bt680.1 + 1)) : Int).toNat x1.size).size ≤ 9223372036854775807 then (spec_l1Cur_spoilt.l0 k ((x1.extract 0 (bt680.1 : Int).toNat) ++ (x1.extract ((wrap64 (bt680.1 + 1)) : Int).toNat x1.size)) x2 (wrap64 (x7 - 1)) x1000 bt689.2.1 bt689.2.2) else (none)) else (none)) else (none)) else (none)) else (none)))))) else (none)) else (none)))) else (some (x1, x1001, x1002))
end
def spec_l1Cur_spoilt.f (k : Nat) (s0_0 : List Int) (s0_1 : Int) (s0_2 : Int) (a1 : ByteArray) (a2 : ByteArray) : Option (ByteArray × Int × Int) := (spec_l1Cur_pick.f s0_0 s0_1 s0_2 2).bind fun bt677 => (spec_l1Cur_spoilt.l0 k a1 a2 (wrap64 (1 + bt677.1)) s0_0 bt677.2.1 bt677.2.2)
theorem spec_l1Cur_spoilt.calls (k : Nat) (g : Nat) (s0_0 : List Int) (s0_1 : Int) (s0_2 : Int) (a1 : ByteArray) (a2 : ByteArray) (r1 : ByteArray) (r2 : Int) (r3 : Int) (w0 w : World) (hI : IsS75 w0 w g s0_0 s0_1 s0_2) (hB : Below w0.heap.size w0 w) (h : spec_l1Cur_spoilt.f k s0_0 s0_1 s0_2 a1 a2 = some (r1, r2, r3)) :
  Calls Tryz.prog 52 #[.pointer (some ⟨g, 0, none⟩), .string a1, .string a2] w fun e w' => e = .returned (.string r1) ∧ IsS75 w0 w' g s0_0 r2 r3 ∧ Below w0.heap.size w0 w' ∧ KeepBut w w' g none := by
 have HI0 := am_ hI
 have HK := am_ (KeepBut.refl w g none)
 have HL := am_ hB.size
 clear hI
 have HW0 := am_ hB.size
 have HB := am_ hB
 clear hB
 have H := h
 unfold spec_l1Cur_spoilt.f at H
 clear h
 revert H; refine bn_ ?_; rintro ⟨t677, t678, t679⟩ A4 H; try dsimp only at H
 have H' := am_ H
 clear H
 go_enter Tryz.func52, Tryz.ntmps52
 go_wp2_with (first | (go_at_call 75; (with_reducible refine (spec_l1Cur_pick.calls g s0_0 s0_1 s0_2 2 t677 t678 t679 w0 _ ?_ ?_ A4.out).mono ?_); exact IsS75.q HI0; exact hbI_ HB (IsS75.ge HI0.out); rintro e w5 ⟨rfl, hi, hb, hk⟩; replace HK := kt_ HK hk; replace HB := am_ (hb); replace HI0 := am_ (hi)))
 repeat (go_quiet (fail); try go_wp2)
 go_loopg [1, 7] k (fun kq v1 v7 w' => ∃ (x1_1 : ByteArray) (x7_1 : Int) (x1001_1 : Int) (x1002_1 : Int), v1 = .string x1_1 ∧ v7 = .int .i64 x7_1 ∧ Aside0 (spec_l1Cur_spoilt.l0 kq x1_1 a2 x7_1 s0_0 x1001_1 x1002_1 = some (r1, r2, r3)) ∧ Aside0 (kq ≤ k) ∧ Aside0 (IsS75 w0 w' g s0_0 x1001_1 x1002_1) ∧ Aside0 (KeepBut w w' g none) ∧ Aside0 (Below w0.heap.size w0 w'))
 case atStart => exact ⟨(a1), (wrap64 (1 + t677)), (t678), (t679), sr_, sr_, H', ⟨Nat.le_refl _⟩, ⟨IsS75.q HI0⟩, ⟨hk_ HK⟩, ⟨hbI_ HB (IsS75.ge HI0.out)⟩⟩
 clear H'
 obtain ⟨x1_1, x7_1, x1001_1, x1002_1, rfl, rfl, HA, HK1, HI0, HK, HB⟩ := hrel
 cases gk with
 | zero => exact absurd HA.out (by simp [spec_l1Cur_spoilt.l0])
 | succ k1 => ?_
 have H := HA.out
 clear HA
 simp only [spec_l1Cur_spoilt.l0] at H
 have HC6 := am_ H
 clear H
 go_upto_region 2 with (fail)
 repeat (go_quiet (fail); go_upto_region 2 with (fail))
 go_cut [19] (fun v19 wc => ∃ (kq : Nat) (x19_5 : Bool), v19 = .bool x19_5 ∧ Aside0 (spec_l1Cur_spoilt.j1 kq x1_1 a2 x7_1 x19_5 s0_0 x1001_1 x1002_1 = some (r1, r2, r3)) ∧ Aside0 (kq ≤ k1) ∧ Aside0 (IsS75 w0 wc g s0_0 x1001_1 x1002_1) ∧ Aside0 (KeepBut w wc g none) ∧ Aside0 (Below w0.heap.size w0 wc))
 case first =>
  have H := HC6.out
  clear HC6
  by_cases c7 : x7_1 > 0
  ·rw [if_pos c7] at H
   have c7b0 : decide (0 < x7_1) = true := decide_eq_true c7
   clear c7
   (first | rw [c7b0] | (simp only [i64_w, i32_w]; rw [c7b0]) | skip)
   have H' := am_ H
   clear H
   go_wp2
   repeat (go_quiet (fail); try go_wp2)
   go_meet
   case rel => exact ⟨_, (decide ((x1_1.size : Int) > 0)), sr_, H', ⟨by have := HK1.out; first | omega | exact Nat.le_refl _⟩, ⟨IsS75.q HI0⟩, ⟨hk_ HK⟩, ⟨hbI_ HB (IsS75.ge HI0.out)⟩⟩
  rw [if_neg c7] at H
  have c7b0 : decide (0 < x7_1) = false := decide_eq_false c7
  clear c7
  (first | rw [c7b0] | (simp only [i64_w, i32_w]; rw [c7b0]) | skip)
  have H' := am_ H
  clear H
  go_wp2
  repeat (go_quiet (fail); try go_wp2)
  go_meet
  case rel => exact ⟨_, (false), sr_, H', ⟨by have := HK1.out; first | omega | exact Nat.le_refl _⟩, ⟨IsS75.q HI0⟩, ⟨hk_ HK⟩, ⟨hbI_ HB (IsS75.ge HI0.out)⟩⟩
 clear HC6
 obtain ⟨kq, x19_5, rfl, HA, HJ5, HI0, HK, HB⟩ := hcut
 cases kq with
 | zero => exact absurd HA.out (by simp [spec_l1Cur_spoilt.j1])
 | succ kj5 => ?_
 have H := HA.out
 clear HA
 simp only [spec_l1Cur_spoilt.j1] at H
 by_cases c8 : x19_5 = true
 case neg => replace c8 := Bool.eq_false_iff.mpr c8; subst c8; rw [if_neg (show ¬ (false = true) by decide)] at H; simp only [Option.some.injEq, Prod.mk.injEq] at H; obtain ⟨rfl, rfl, rfl⟩ := H; go_wp2; (repeat (go_quiet (fail); try go_wp2)); go_ret; (exact ⟨se_, IsS75.q HI0, hbI_ HB (IsS75.ge HI0.out), hk_ HK⟩)
 subst c8
 rw [if_pos rfl] at H
 revert H; refine bn_ ?_; rintro ⟨t680, t681, t682⟩ A9 H; try dsimp only at H
 revert H; refine bn_ ?_; rintro ⟨t683, t684, t685⟩ A10 H; try dsimp only at H
 revert H; refine pd_ fun c11b0 H => ?_
 revert H; refine pd_ fun c12b0 H => ?_
 obtain ⟨y686, hy686⟩ : ∃ y_ : List Int, y_ = (([bt a2 t683] : List Int)) := ⟨_, rfl⟩
 (try with_reducible replace H := (Option.bind_some _ _).symm.trans H); (try dsimp only at H); (try rw [← hy686] at H)
 have Ny686 := am_ hy686
 clear hy686
 revert H; refine bn_ ?_; rintro ⟨t689, t690, t691⟩ A14 H; try dsimp only at H
 by_cases c15 : t689 = 0
 ·rw [if_pos c15] at H
  have c15b0 : (t689 == 0) = true := beq_iff_eq.mpr c15
  have c15b1 : (t689 != 0) = false := bne_eq_false_iff_eq.mpr c15
  clear c15
  revert H; refine pf_ fun c16 H => ?_
  have c16b0 := eq_true c16
  have c16b1 := decide_eq_true c16
  clear c16
  revert H; refine pf_ fun c17 H => ?_
  have c17b0 := eq_true c17
  have c17b1 := decide_eq_true c17
  clear c17
  revert H; refine pf_ fun c18 H => ?_
  have c18b0 := eq_true c18
  have c18b1 := decide_eq_true c18
  try have c18b2 : (9223372036854775807 < (x1_1.extract 0 (t680 : Int).toNat).size + (strOfNums y686).size) = False := eq_false (Nat.not_lt.2 c18)
  have c19b0 := eq_true (od_ : 0 ≤ t680)
  have c20b0 := eq_true (od_ : t680 ≤ (x1_1.size : Int))
  revert H; refine pf_ fun c21 H => ?_
  have c21b0 := eq_true c21
  have c21b1 := decide_eq_true c21
  try have c21b2 : (9223372036854775807 < ((x1_1.extract 0 (t680 : Int).toNat) ++ (strOfNums y686)).size + (x1_1.extract (t680 : Int).toNat x1_1.size).size) = False := eq_false (Nat.not_lt.2 c21)
  have c21b3 : (9223372036854775807 < (x1_1.extract 0 (t680 : Int).toNat).size + (strOfNums y686).size + (x1_1.extract (t680 : Int).toNat x1_1.size).size) = False := eq_false (Nat.not_lt.2 (by have h_ := c21; simp only [ByteArray.size_append] at h_; exact h_))
  have H' := am_ H
  clear H
  go_wp2_with (first | (go_at_call 75; (with_reducible refine (spec_l1Cur_pick.calls g s0_0 x1001_1 x1002_1 (x1_1.size : Int) t680 t681 t682 w0 _ ?_ ?_ A9.out).mono ?_); exact IsS75.q HI0; exact hbI_ HB (IsS75.ge HI0.out); rintro e w22 ⟨rfl, hi, hb, hk⟩; replace HK := kt_ HK hk; replace HB := am_ (hb); replace HI0 := am_ (hi)) | (go_at_call 75; (with_reducible refine (spec_l1Cur_pick.calls g s0_0 t681 t682 (a2.size : Int) t683 t684 t685 w0 _ ?_ ?_ A10.out).mono ?_); exact IsS75.q HI0; exact hbI_ HB (IsS75.ge HI0.out); rintro e w23 ⟨rfl, hi, hb, hk⟩; replace HK := kt_ HK hk; replace HB := am_ (hb); replace HI0 := am_ (hi); have p13 : 0 ≤ (t683 : Int) := od_; have q13 : t683 < (a2.size : Int) := od_; have hx13 := bt_at a2 t683; replace p13 := eq_true p13; replace q13 := eq_true q13) | ((with_reducible refine gate_dst (N := 32) rfl ?_); (try (refine gate_guard (by rfl) ?_; dsimp only)); refine Kd.R_lit (Kd.int .u8) _ 5 ?hg (N := 32) ?hd (xs := ([bt a2 t683] : List Int)) (inner := [.int .u8 (bt a2 t683)]) (ok := fun _ => True) (okp := fun _ => True) ?hr ?hp (fun _ hk => hk) trivial (Below.refl _ _) (Nat.le_refl _) (by simp) ?_; (case hd => rfl); (case hg => rfl); (case hr => first | (go_simp; done) | (go_simp; rfl)); (case hp => exact (Reps.one (show Kd.M (Kd.int .u8) _ _ _ (bt a2 t683) [.int .u8 (bt a2 t683)] from rfl) (Reps.none _ _))); intro v687 w24 ho25 hb hg_ hnew_; clear hg_ hnew_; (first | rw [← Ny686.out] at ho25 | (simp only [Int.reduceToNat] at ho25; rw [← Ny686.out] at ho25)); have HO688 := am_ (Kd.R_lower ho25 (keep_size (hk_ HK))); replace HK := hkb_ HK hb; replace HB := am_ (below_step (hbI_ HB (IsS75.ge HI0.out)) hb); replace HI0 := IsS75.b HI0 hb; clear hb ho25; have hcv26 := own_string (P := Tryz.prog) Tryz.underlying22 Tryz.underlying5 Tryz.underlying9 (Kd.own_of_R HO688.out); try clear HO688) | (go_at_call 75; (with_reducible refine (spec_l1Cur_pick.calls g s0_0 t684 t685 3 t689 t690 t691 w0 _ ?_ ?_ A14.out).mono ?_); exact IsS75.q HI0; exact hbI_ HB (IsS75.ge HI0.out); rintro e w27 ⟨rfl, hi, hb, hk⟩; replace HK := kt_ HK hk; replace HB := am_ (hb); replace HI0 := am_ (hi)))
  repeat (go_quiet (fail); try go_wp2)
  go_roundg kj5
  case measure => have := HK1.out; have := HJ5.out; omega
  case rel => exact ⟨(((x1_1.extract 0 (t680 : Int).toNat) ++ (strOfNums y686)) ++ (x1_1.extract (t680 : Int).toNat x1_1.size)), (wrap64 (x7_1 - 1)), (t690), (t691), sr_, sr_, H', ⟨by have := HK1.out; have := HJ5.out; omega⟩, ⟨IsS75.q HI0⟩, ⟨hk_ HK⟩, ⟨hbI_ HB (IsS75.ge HI0.out)⟩⟩
 rw [if_neg c15] at H
 have c15b0 : (t689 == 0) = false := beq_eq_false_iff_ne.mpr c15
 have c15b1 : (t689 != 0) = true := bne_iff_ne.mpr c15
 by_cases c28 : t689 = 1
 ·rw [if_pos c28] at H
  have c28b0 : (t689 == 1) = true := beq_iff_eq.mpr c28
  have c28b1 : (t689 != 1) = false := bne_eq_false_iff_eq.mpr c28
  clear c28
  revert H; refine pf_ fun c29 H => ?_
  have c29b0 := eq_true c29
  have c29b1 := decide_eq_true c29
  clear c29
  revert H; refine pf_ fun c30 H => ?_
  have c30b0 := eq_true c30
  have c30b1 := decide_eq_true c30
  clear c30
  revert H; refine pf_ fun c31 H => ?_
  have c31b0 := eq_true c31
  have c31b1 := decide_eq_true c31
  try have c31b2 : (9223372036854775807 < (x1_1.extract 0 (t680 : Int).toNat).size + (strOfNums y686).size) = False := eq_false (Nat.not_lt.2 c31)
  obtain ⟨ji32, hji32⟩ : ∃ j_ : Int, (wrap64 (t680 + 1)) = j_ := ⟨_, rfl⟩
  replace H : (if 0 ≤ (ji32) then (if (ji32) ≤ (x1_1.size : Int) then (if ((x1_1.extract 0 (t680 : Int).toNat) ++ (strOfNums y686)).size + (x1_1.extract ((ji32) : Int).toNat x1_1.size).size ≤ 9223372036854775807 then (spec_l1Cur_spoilt.l0 kj5 (((x1_1.extract 0 (t680 : Int).toNat) ++ (strOfNums y686)) ++ (x1_1.extract ((ji32) : Int).toNat x1_1.size)) a2 (wrap64 (x7_1 - 1)) s0_0 t690 t691) else (none)) else (none)) else (none)) = some (r1, r2, r3) := by first | (rw [hji32] at H; exact H) | (simp only [hji32] at H ⊢; exact H)
  (try rw [hji32] at A9)
  (try rw [hji32] at A10)
  (try rw [hji32] at A14)
  have hji32w : (IntKind.i64.wrap (t680 + 1)) = ji32 := (i64_w _).trans hji32
  revert H; refine pf_ fun c33 H => ?_
  have c33b0 := eq_true c33
  have c33b1 := decide_eq_true c33
  clear c33
  revert H; refine pf_ fun c34 H => ?_
  have c34b0 := eq_true c34
  have c34b1 := decide_eq_true c34
  clear c34
  revert H; refine pf_ fun c35 H => ?_
  have c35b0 := eq_true c35
  have c35b1 := decide_eq_true c35
  try have c35b2 : (9223372036854775807 < ((x1_1.extract 0 (t680 : Int).toNat) ++ (strOfNums y686)).size + (x1_1.extract ((ji32) : Int).toNat x1_1.size).size) = False := eq_false (Nat.not_lt.2 c35)
  have c35b3 : (9223372036854775807 < (x1_1.extract 0 (t680 : Int).toNat).size + (strOfNums y686).size + (x1_1.extract ((ji32) : Int).toNat x1_1.size).size) = False := eq_false (Nat.not_lt.2 (by have h_ := c35; simp only [ByteArray.size_append] at h_; exact h_))
  have H' := am_ H
  clear H
  go_wp2_with (first | (go_at_call 75; (with_reducible refine (spec_l1Cur_pick.calls g s0_0 x1001_1 x1002_1 (x1_1.size : Int) t680 t681 t682 w0 _ ?_ ?_ A9.out).mono ?_); exact IsS75.q HI0; exact hbI_ HB (IsS75.ge HI0.out); rintro e w36 ⟨rfl, hi, hb, hk⟩; replace HK := kt_ HK hk; replace HB := am_ (hb); replace HI0 := am_ (hi)) | (go_at_call 75; (with_reducible refine (spec_l1Cur_pick.calls g s0_0 t681 t682 (a2.size : Int) t683 t684 t685 w0 _ ?_ ?_ A10.out).mono ?_); exact IsS75.q HI0; exact hbI_ HB (IsS75.ge HI0.out); rintro e w37 ⟨rfl, hi, hb, hk⟩; replace HK := kt_ HK hk; replace HB := am_ (hb); replace HI0 := am_ (hi); have p13 : 0 ≤ (t683 : Int) := od_; have q13 : t683 < (a2.size : Int) := od_; have hx13 := bt_at a2 t683; replace p13 := eq_true p13; replace q13 := eq_true q13) | ((with_reducible refine gate_dst (N := 32) rfl ?_); (try (refine gate_guard (by rfl) ?_; dsimp only)); refine Kd.R_lit (Kd.int .u8) _ 5 ?hg (N := 32) ?hd (xs := ([bt a2 t683] : List Int)) (inner := [.int .u8 (bt a2 t683)]) (ok := fun _ => True) (okp := fun _ => True) ?hr ?hp (fun _ hk => hk) trivial (Below.refl _ _) (Nat.le_refl _) (by simp) ?_; (case hd => rfl); (case hg => rfl); (case hr => first | (go_simp; done) | (go_simp; rfl)); (case hp => exact (Reps.one (show Kd.M (Kd.int .u8) _ _ _ (bt a2 t683) [.int .u8 (bt a2 t683)] from rfl) (Reps.none _ _))); intro v687 w38 ho39 hb hg_ hnew_; clear hg_ hnew_; (first | rw [← Ny686.out] at ho39 | (simp only [Int.reduceToNat] at ho39; rw [← Ny686.out] at ho39)); have HO688 := am_ (Kd.R_lower ho39 (keep_size (hk_ HK))); replace HK := hkb_ HK hb; replace HB := am_ (below_step (hbI_ HB (IsS75.ge HI0.out)) hb); replace HI0 := IsS75.b HI0 hb; clear hb ho39; have hcv40 := own_string (P := Tryz.prog) Tryz.underlying22 Tryz.underlying5 Tryz.underlying9 (Kd.own_of_R HO688.out); try clear HO688) | (go_at_call 75; (with_reducible refine (spec_l1Cur_pick.calls g s0_0 t684 t685 3 t689 t690 t691 w0 _ ?_ ?_ A14.out).mono ?_); exact IsS75.q HI0; exact hbI_ HB (IsS75.ge HI0.out); rintro e w41 ⟨rfl, hi, hb, hk⟩; replace HK := kt_ HK hk; replace HB := am_ (hb); replace HI0 := am_ (hi)))
  repeat (go_quiet (fail); try go_wp2)
  go_roundg kj5
  case measure => have := HK1.out; have := HJ5.out; omega
  case rel => exact ⟨(((x1_1.extract 0 (t680 : Int).toNat) ++ (strOfNums y686)) ++ (x1_1.extract ((ji32) : Int).toNat x1_1.size)), (wrap64 (x7_1 - 1)), (t690), (t691), (by first | rfl | (simp; done) | (simp only [← hji32] <;> (first | rfl | simp)) | (simp [*]; done)), sr_, H', ⟨by have := HK1.out; have := HJ5.out; omega⟩, ⟨IsS75.q HI0⟩, ⟨hk_ HK⟩, ⟨hbI_ HB (IsS75.ge HI0.out)⟩⟩
 rw [if_neg c28] at H
 have c28b0 : (t689 == 1) = false := beq_eq_false_iff_ne.mpr c28
 have c28b1 : (t689 != 1) = true := bne_iff_ne.mpr c28
 revert H; refine pf_ fun c42 H => ?_
 have c42b0 := eq_true c42
 have c42b1 := decide_eq_true c42
 clear c42
 revert H; refine pf_ fun c43 H => ?_
 have c43b0 := eq_true c43
 have c43b1 := decide_eq_true c43
 clear c43
 obtain ⟨ji44, hji44⟩ : ∃ j_ : Int, (wrap64 (t680 + 1)) = j_ := ⟨_, rfl⟩
 replace H : (if 0 ≤ (ji44) then (if (ji44) ≤ (x1_1.size : Int) then (if (x1_1.extract 0 (t680 : Int).toNat).size + (x1_1.extract ((ji44) : Int).toNat x1_1.size).size ≤ 9223372036854775807 then (spec_l1Cur_spoilt.l0 kj5 ((x1_1.extract 0 (t680 : Int).toNat) ++ (x1_1.extract ((ji44) : Int).toNat x1_1.size)) a2 (wrap64 (x7_1 - 1)) s0_0 t690 t691) else (none)) else (none)) else (none)) = some (r1, r2, r3) := by first | (rw [hji44] at H; exact H) | (simp only [hji44] at H ⊢; exact H)
 (try rw [hji44] at A9)
 (try rw [hji44] at A10)
 (try rw [hji44] at A14)
 have hji44w : (IntKind.i64.wrap (t680 + 1)) = ji44 := (i64_w _).trans hji44
 revert H; refine pf_ fun c45 H => ?_
 have c45b0 := eq_true c45
 have c45b1 := decide_eq_true c45
 clear c45
 revert H; refine pf_ fun c46 H => ?_
 have c46b0 := eq_true c46
 have c46b1 := decide_eq_true c46
 clear c46
 revert H; refine pf_ fun c47 H => ?_
 have c47b0 := eq_true c47
 have c47b1 := decide_eq_true c47
 try have c47b2 : (9223372036854775807 < (x1_1.extract 0 (t680 : Int).toNat).size + (x1_1.extract ((ji44) : Int).toNat x1_1.size).size) = False := eq_false (Nat.not_lt.2 c47)
 have H' := am_ H
 clear H
 go_wp2_with (first | (go_at_call 75; (with_reducible refine (spec_l1Cur_pick.calls g s0_0 x1001_1 x1002_1 (x1_1.size : Int) t680 t681 t682 w0 _ ?_ ?_ A9.out).mono ?_); exact IsS75.q HI0; exact hbI_ HB (IsS75.ge HI0.out); rintro e w48 ⟨rfl, hi, hb, hk⟩; replace HK := kt_ HK hk; replace HB := am_ (hb); replace HI0 := am_ (hi)) | (go_at_call 75; (with_reducible refine (spec_l1Cur_pick.calls g s0_0 t681 t682 (a2.size : Int) t683 t684 t685 w0 _ ?_ ?_ A10.out).mono ?_); exact IsS75.q HI0; exact hbI_ HB (IsS75.ge HI0.out); rintro e w49 ⟨rfl, hi, hb, hk⟩; replace HK := kt_ HK hk; replace HB := am_ (hb); replace HI0 := am_ (hi); have p13 : 0 ≤ (t683 : Int) := od_; have q13 : t683 < (a2.size : Int) := od_; have hx13 := bt_at a2 t683; replace p13 := eq_true p13; replace q13 := eq_true q13) | ((with_reducible refine gate_dst (N := 32) rfl ?_); (try (refine gate_guard (by rfl) ?_; dsimp only)); refine Kd.R_lit (Kd.int .u8) _ 5 ?hg (N := 32) ?hd (xs := ([bt a2 t683] : List Int)) (inner := [.int .u8 (bt a2 t683)]) (ok := fun _ => True) (okp := fun _ => True) ?hr ?hp (fun _ hk => hk) trivial (Below.refl _ _) (Nat.le_refl _) (by simp) ?_; (case hd => rfl); (case hg => rfl); (case hr => first | (go_simp; done) | (go_simp; rfl)); (case hp => exact (Reps.one (show Kd.M (Kd.int .u8) _ _ _ (bt a2 t683) [.int .u8 (bt a2 t683)] from rfl) (Reps.none _ _))); intro v687 w50 ho51 hb hg_ hnew_; clear hg_ hnew_; (first | rw [← Ny686.out] at ho51 | (simp only [Int.reduceToNat] at ho51; rw [← Ny686.out] at ho51)); have HO688 := am_ (Kd.R_lower ho51 (keep_size (hk_ HK))); replace HK := hkb_ HK hb; replace HB := am_ (below_step (hbI_ HB (IsS75.ge HI0.out)) hb); replace HI0 := IsS75.b HI0 hb; clear hb ho51; have hcv52 := own_string (P := Tryz.prog) Tryz.underlying22 Tryz.underlying5 Tryz.underlying9 (Kd.own_of_R HO688.out); try clear HO688) | (go_at_call 75; (with_reducible refine (spec_l1Cur_pick.calls g s0_0 t684 t685 3 t689 t690 t691 w0 _ ?_ ?_ A14.out).mono ?_); exact IsS75.q HI0; exact hbI_ HB (IsS75.ge HI0.out); rintro e w53 ⟨rfl, hi, hb, hk⟩; replace HK := kt_ HK hk; replace HB := am_ (hb); replace HI0 := am_ (hi)))
 repeat (go_quiet (fail); try go_wp2)
 go_roundg kj5
 case measure => have := HK1.out; have := HJ5.out; omega
 case rel => exact ⟨((x1_1.extract 0 (t680 : Int).toNat) ++ (x1_1.extract ((ji44) : Int).toNat x1_1.size)), (wrap64 (x7_1 - 1)), (t690), (t691), (by first | rfl | (simp; done) | (simp only [← hji44] <;> (first | rfl | simp)) | (simp [*]; done)), sr_, H', ⟨by have := HK1.out; have := HJ5.out; omega⟩, ⟨IsS75.q HI0⟩, ⟨hk_ HK⟩, ⟨hbI_ HB (IsS75.ge HI0.out)⟩⟩

/-! ### spec_DrawParseModel: function 26 -/
def spec_DrawParseModel.f (k : Nat) (l0 : List Int) : Option (ByteArray) := (spec_l1Cur_model.f k l0 0 0).bind fun bt693 => ((spec_moText.f k bt693.1 bt693.2.1 bt693.2.2.1 bt693.2.2.2.1 bt693.2.2.2.2.1 bt693.2.2.2.2.2.1).bind fun t707 => ((spec_l1Cur_one.f l0 bt693.2.2.2.2.2.2.1 bt693.2.2.2.2.2.2.2 3).bind fun bt708 => (if bt708.1 = true then ((spec_l1Cur_spoilt.f k l0 bt708.2.1 bt708.2.2 t707 (⟨#[48, 49, 50, 51, 32, 120, 10]⟩ : ByteArray)).bind fun bt711 => (some bt711.1)) else (some t707))))
theorem spec_DrawParseModel.calls (k : Nat) (A0 : Option Addr) (c0 : Nat) (l0 : List Int) (r : ByteArray) (w : World) (hr0 : Kd.C (Kd.int .u8) w A0 l0.length l0) (hc0 : l0.length ≤ c0) (h : spec_DrawParseModel.f k l0 = some r) :
  Calls Tryz.prog 26 #[.slice A0 l0.length c0] w fun e w' => e = .returned (.string r) ∧ Below w.heap.size w w' := by
 have hu75 := Tryz.underlying75
 have HR0 := am_ hr0
 have HC0 := am_ hc0
 clear hr0 hc0
 have HB := am_ (Below.refl w.heap.size w)
 have H := h
 unfold spec_DrawParseModel.f at H
 clear h
 revert H; refine bn_ ?_; rintro ⟨t693, t694, t695, t696, t699, t702, t705, t706⟩ A2 H; try dsimp only at H
 revert H; refine bn_ ?_; rintro t707 A3 H; try dsimp only at H
 revert H; refine bn_ ?_; rintro ⟨t708, t709, t710⟩ A4 H; try dsimp only at H
 by_cases c5 : t708 = true
 ·subst c5
  rw [if_pos rfl] at H
  revert H; refine bn_ ?_; rintro ⟨t711, t712, t713⟩ A6 H; try dsimp only at H
  obtain rfl := Option.some.inj H
  go_enter Tryz.func26, Tryz.ntmps26
  go_wp2_with (first | ((with_reducible refine gate_dst (N := 7) rfl ?_); refine bv_ 7 (cs := #[.slice A0 l0.length c0, .int .i64 0, .int .u64 0]) (t := 75) ?_; intro gb692 hg w7 hbox hb; have HI692 := am_ ((show IsS75 w w7 gb692 l0 0 0 from ⟨A0, c0, hbox, (by rw [hg]; exact (below_size (hb_ HB))), HR0.out⟩)); have GW692 := gs_ hg HB; have GE692 := gs_ hg HB; replace HB := hbs_ HB hb; clear hb hbox hg) | ((with_reducible refine gk_ 50 ?_); refine gq_ 9 Tryz.func50 #[.pointer (some ⟨gb692, 0, none⟩)] ?_; (with_reducible refine (spec_l1Cur_model.calls k gb692 l0 0 0 t693 t694 t695 t696 t699 t702 t705 t706 w _ ?_ ?_ A2.out).mono ?_); exact IsS75.q HI692; exact hbI_ HB (IsS75.ge HI692.out); rintro e w8 ⟨v697, v700, v703, rfl, ho0, ho1, ho2, hi, hb, hk⟩; refine ⟨_, rfl, ?_⟩; have HO698 := am_ (Kd.R_lower ho0 (below_size (hbI_ HB (IsS75.ge HI692.out)))); have HO701 := am_ (Kd.R_lower ho1 (below_size (hbI_ HB (IsS75.ge HI692.out)))); have HO704 := am_ (Kd.R_lower ho2 (below_size (hbI_ HB (IsS75.ge HI692.out)))); replace HB := am_ (hb); replace HI692 := am_ (hi); obtain ⟨Ao9, co9, eo9⟩ := Kd.R_slice HO698.out; subst eo9; obtain ⟨Ao10, co10, eo10⟩ := Kd.R_slice HO701.out; subst eo10; obtain ⟨Ao11, co11, eo11⟩ := Kd.R_slice HO704.out; subst eo11) | ((with_reducible refine gk_ 32 ?_); refine gq_ 10 Tryz.func32 #[.agg #[.int .i64 t693, .int .i64 t694, .int .i64 t695, .slice Ao9 t696.length co9, .slice Ao10 t699.length co10, .slice Ao11 t702.length co11]] ?_; (with_reducible refine (spec_moText.calls k t693 t694 t695 _ _ t696 _ _ t699 _ _ t702 t707 _ ?_ ?_ ?_ ?_ ?_ ?_ A3.out).mono ?_); exact Kd.C_o HO698; exact (Kd.R_reads' HO698.out).2.1; exact Kd.C_o HO701; exact (Kd.R_reads' HO701.out).2.1; exact Kd.C_o HO704; exact (Kd.R_reads' HO704.out).2.1; rintro e w12 ⟨rfl, hb⟩; refine ⟨_, rfl, ?_⟩; replace HO698 := Kd.R_b HO698 hb; replace HO701 := Kd.R_b HO701 hb; replace HO704 := Kd.R_b HO704 hb; replace HB := am_ (below_step (hbI_ HB (IsS75.ge HI692.out)) hb); replace HI692 := IsS75.b HI692 hb; try clear HO698; try clear HO701; try clear HO704) | ((with_reducible refine gk_ 51 ?_); refine gq_ 12 Tryz.func51 #[.pointer (some ⟨gb692, 0, none⟩), .int .i64 3] ?_; (with_reducible refine (spec_l1Cur_one.calls gb692 l0 t705 t706 3 true t709 t710 w _ ?_ ?_ A4.out).mono ?_); exact IsS75.q HI692; exact hbI_ HB (IsS75.ge HI692.out); rintro e w13 ⟨rfl, hi, hb, hk⟩; refine ⟨_, rfl, ?_⟩; replace HB := am_ (hb); replace HI692 := am_ (hi)) | ((with_reducible refine gk_ 52 ?_); refine gq_ 15 Tryz.func52 #[.pointer (some ⟨gb692, 0, none⟩), .string t707, .string ⟨#[48, 49, 50, 51, 32, 120, 10]⟩] ?_; (with_reducible refine (spec_l1Cur_spoilt.calls k gb692 l0 t709 t710 t707 (⟨#[48, 49, 50, 51, 32, 120, 10]⟩ : ByteArray) t711 t712 t713 w _ ?_ ?_ A6.out).mono ?_); exact IsS75.q HI692; exact hbI_ HB (IsS75.ge HI692.out); rintro e w14 ⟨rfl, hi, hb, hk⟩; refine ⟨_, rfl, ?_⟩; replace HB := am_ (hb); replace HI692 := am_ (hi)))
  go_ret
  exact ⟨se_, hbI_ HB (IsS75.ge HI692.out)⟩
 replace c5 := Bool.eq_false_iff.mpr c5
 subst c5
 rw [if_neg (show ¬ (false = true) by decide)] at H
 obtain rfl := Option.some.inj H
 go_enter Tryz.func26, Tryz.ntmps26
 go_wp2_with (first | ((with_reducible refine gate_dst (N := 7) rfl ?_); refine bv_ 7 (cs := #[.slice A0 l0.length c0, .int .i64 0, .int .u64 0]) (t := 75) ?_; intro gb692 hg w15 hbox hb; have HI692 := am_ ((show IsS75 w w15 gb692 l0 0 0 from ⟨A0, c0, hbox, (by rw [hg]; exact (below_size (hb_ HB))), HR0.out⟩)); have GW692 := gs_ hg HB; have GE692 := gs_ hg HB; replace HB := hbs_ HB hb; clear hb hbox hg) | ((with_reducible refine gk_ 50 ?_); refine gq_ 9 Tryz.func50 #[.pointer (some ⟨gb692, 0, none⟩)] ?_; (with_reducible refine (spec_l1Cur_model.calls k gb692 l0 0 0 t693 t694 t695 t696 t699 t702 t705 t706 w _ ?_ ?_ A2.out).mono ?_); exact IsS75.q HI692; exact hbI_ HB (IsS75.ge HI692.out); rintro e w16 ⟨v697, v700, v703, rfl, ho0, ho1, ho2, hi, hb, hk⟩; refine ⟨_, rfl, ?_⟩; have HO698 := am_ (Kd.R_lower ho0 (below_size (hbI_ HB (IsS75.ge HI692.out)))); have HO701 := am_ (Kd.R_lower ho1 (below_size (hbI_ HB (IsS75.ge HI692.out)))); have HO704 := am_ (Kd.R_lower ho2 (below_size (hbI_ HB (IsS75.ge HI692.out)))); replace HB := am_ (hb); replace HI692 := am_ (hi); obtain ⟨Ao17, co17, eo17⟩ := Kd.R_slice HO698.out; subst eo17; obtain ⟨Ao18, co18, eo18⟩ := Kd.R_slice HO701.out; subst eo18; obtain ⟨Ao19, co19, eo19⟩ := Kd.R_slice HO704.out; subst eo19) | ((with_reducible refine gk_ 32 ?_); refine gq_ 10 Tryz.func32 #[.agg #[.int .i64 t693, .int .i64 t694, .int .i64 t695, .slice Ao17 t696.length co17, .slice Ao18 t699.length co18, .slice Ao19 t702.length co19]] ?_; (with_reducible refine (spec_moText.calls k t693 t694 t695 _ _ t696 _ _ t699 _ _ t702 t707 _ ?_ ?_ ?_ ?_ ?_ ?_ A3.out).mono ?_); exact Kd.C_o HO698; exact (Kd.R_reads' HO698.out).2.1; exact Kd.C_o HO701; exact (Kd.R_reads' HO701.out).2.1; exact Kd.C_o HO704; exact (Kd.R_reads' HO704.out).2.1; rintro e w20 ⟨rfl, hb⟩; refine ⟨_, rfl, ?_⟩; replace HO698 := Kd.R_b HO698 hb; replace HO701 := Kd.R_b HO701 hb; replace HO704 := Kd.R_b HO704 hb; replace HB := am_ (below_step (hbI_ HB (IsS75.ge HI692.out)) hb); replace HI692 := IsS75.b HI692 hb; try clear HO698; try clear HO701; try clear HO704) | ((with_reducible refine gk_ 51 ?_); refine gq_ 12 Tryz.func51 #[.pointer (some ⟨gb692, 0, none⟩), .int .i64 3] ?_; (with_reducible refine (spec_l1Cur_one.calls gb692 l0 t705 t706 3 false t709 t710 w _ ?_ ?_ A4.out).mono ?_); exact IsS75.q HI692; exact hbI_ HB (IsS75.ge HI692.out); rintro e w21 ⟨rfl, hi, hb, hk⟩; refine ⟨_, rfl, ?_⟩; replace HB := am_ (hb); replace HI692 := am_ (hi)))
 go_ret
 exact ⟨se_, hbI_ HB (IsS75.ge HI692.out)⟩

/-! ### spec_l1Split: function 53 -/
def spec_l1Split.l0 : Nat → ByteArray → Int → List ByteArray → Int → Int → Option (List ByteArray)
 | 0, _, _, _, _, _ => none
 | k + 1, x0, x1, x5, x6, x7 => if x7 < (x0.size : Int) then (if 0 ≤ x7 then (if (bt x0 x7) = x1 then (if 0 ≤ x6 then (if x6 ≤ x7 then (if x7 ≤ (x0.size : Int) then (if x5.length < 8796093022208 then (spec_l1Split.l0 k x0 x1 (x5 ++ [x0.extract (x6 : Int).toNat (x7 : Int).toNat]) (wrap64 (x7 + 1)) (wrap64 (x7 + 1))) else (none)) else (none)) else (none)) else (none)) else (spec_l1Split.l0 k x0 x1 x5 x6 (wrap64 (x7 + 1)))) else (none)) else (if 0 ≤ x6 then (if x6 ≤ (x0.size : Int) then (if x5.length < 8796093022208 then (some (x5 ++ [x0.extract (x6 : Int).toNat x0.size])) else (none)) else (none)) else (none))
def spec_l1Split.f (k : Nat) (a0 : ByteArray) (a1 : Int) : Option (List ByteArray) := spec_l1Split.l0 k a0 a1 ([] : List ByteArray) 0 0
theorem spec_l1Split.calls (k : Nat) (a0 : ByteArray) (a1 : Int) (r : List ByteArray) (w : World) (h : spec_l1Split.f k a0 a1 = some r) :
  Calls Tryz.prog 53 #[.string a0, .int .u8 a1] w fun e w' => ∃ v0_ : Value, e = .returned (v0_) ∧ Kd.R Kd.string 9 w' w.heap.size (fun _ => True) v0_ r ∧ Below w.heap.size w w' := by
 have HB := am_ (Below.refl w.heap.size w)
 have H := h
 unfold spec_l1Split.f at H
 clear h
 have H' := am_ H
 clear H
 go_enter Tryz.func53, Tryz.ntmps53
 go_wp2
 go_loopg [5, 6, 7] k (fun kq v5 v6 v7 w' => ∃ (x5_1 : List ByteArray) (x6_1 : Int) (x7_1 : Int), v6 = .int .i64 x6_1 ∧ v7 = .int .i64 x7_1 ∧ Aside0 (spec_l1Split.l0 kq a0 a1 x5_1 x6_1 x7_1 = some r) ∧ Aside0 (kq ≤ k) ∧ Aside0 (Kd.R Kd.string 9 w' w.heap.size (fun _ => True) v5 x5_1) ∧ Aside0 (Below w.heap.size w w'))
 case atStart => exact ⟨(([] : List ByteArray)), (0), (0), sr_, sr_, H', ⟨Nat.le_refl _⟩, ⟨by first | exact Kd.R_nil _ _ _ _ _ | exact Kd.N_nil _ _ _ _ _ | exact Kd.V_nil _ _ _ _ _ | exact Kd.Q_nil _ _ _ _ _ | exact Kd.S_nil _ _ _ _ _⟩, ⟨hb_ HB⟩⟩
 clear H'
 obtain ⟨x5_1, x6_1, x7_1, rfl, rfl, HA, HK1, HO_5, HB⟩ := hrel
 cases gk with
 | zero => exact absurd HA.out (by simp [spec_l1Split.l0])
 | succ k1 => ?_
 have H := HA.out
 clear HA
 simp only [spec_l1Split.l0] at H
 by_cases c3 : x7_1 < (a0.size : Int)
 ·rw [if_pos c3] at H
  have c3b0 := decide_eq_true c3
  clear c3
  revert H; refine pd_ fun c4b0 H => ?_
  by_cases c6 : (bt a0 x7_1) = a1
  ·rw [if_pos c6] at H
   have c6b0 : ((bt a0 x7_1) == a1) = true := beq_iff_eq.mpr c6
   have c6b1 : ((bt a0 x7_1) != a1) = false := bne_eq_false_iff_eq.mpr c6
   clear c6
   revert H; refine pf_ fun c7 H => ?_
   have c7b0 := eq_true c7
   have c7b1 := decide_eq_true c7
   clear c7
   revert H; refine pf_ fun c8 H => ?_
   have c8b0 := eq_true c8
   have c8b1 := decide_eq_true c8
   clear c8
   revert H; refine pf_ fun c9 H => ?_
   have c9b0 := eq_true c9
   have c9b1 := decide_eq_true c9
   clear c9
   revert H; refine pf_ fun c10 H => ?_
   have LMc10 := am_ c10
   clear c10
   obtain ⟨y714, hy714⟩ : ∃ y_ : List ByteArray, y_ = (x5_1 ++ [a0.extract (x6_1 : Int).toNat (x7_1 : Int).toNat]) := ⟨_, rfl⟩
   (try with_reducible replace H := (Option.bind_some _ _).symm.trans H); (try dsimp only at H); (try rw [← hy714] at H)
   have Ny714 := am_ hy714
   clear hy714
   have H' := am_ H
   clear H
   have p5 : 0 ≤ (x7_1 : Int) := od_
   have q5 : x7_1 < (a0.size : Int) := od_
   have hx5 := bt_at a0 x7_1
   replace p5 := eq_true p5
   replace q5 := eq_true q5
   go_wp2_with (first | ((with_reducible refine gate_builtin (b := .append) (xs := #[.tmp 19, .tmp 24]) rfl ?_); at_builtin; refine Kd.R_append Kd.string (w0 := w) w.heap.size rfl (.tmp 19) (.tmp 24) 58 9 (.string ⟨#[]⟩) 16 rfl Tryz.underlying58 info9 rfl (by decide) (by omega) u5 x5_1 (a0.extract (x6_1 : Int).toNat (x7_1 : Int).toNat) [.string (a0.extract (x6_1 : Int).toNat (x7_1 : Int).toNat)] (fun _ => True) (fun _ => False) rfl rfl ?aP (fun _ hk => hk.elim) ?aF ?aO ?aB ?aS ?aL ?_; (case aP => exact rfl); (case aB => exact (hb_ HB)); (case aF => exact (fun _ _ => trivial)); (case aO => exact (Kd.R_p HO_5)); (case aS => exact (below_size (hb_ HB))); (case aL => have := LMc10.out; omega); intro v715 w11 ho hb hg hat; rw [← Ny714.out] at ho; have HO716 := am_ (ho); replace HB := am_ (hb); clear HO_5; clear ho hb hg hat))
   go_roundg k1
   case measure => have := HK1.out; omega
   case rel => exact ⟨(y714), (wrap64 (x7_1 + 1)), (wrap64 (x7_1 + 1)), sr_, sr_, H', ⟨by have := HK1.out; omega⟩, ⟨Kd.R_p HO716⟩, ⟨hb_ HB⟩⟩
  rw [if_neg c6] at H
  have c6b0 : ((bt a0 x7_1) == a1) = false := beq_eq_false_iff_ne.mpr c6
  have c6b1 : ((bt a0 x7_1) != a1) = true := bne_iff_ne.mpr c6
  have H' := am_ H
  clear H
  have p5 : 0 ≤ (x7_1 : Int) := od_
  have q5 : x7_1 < (a0.size : Int) := od_
  have hx5 := bt_at a0 x7_1
  replace p5 := eq_true p5
  replace q5 := eq_true q5
  go_wp2
  go_roundg k1
  case measure => have := HK1.out; omega
  case rel => exact ⟨(x5_1), (x6_1), (wrap64 (x7_1 + 1)), sr_, sr_, H', ⟨by have := HK1.out; omega⟩, ⟨Kd.R_p HO_5⟩, ⟨hb_ HB⟩⟩
 rw [if_neg c3] at H
 have c3b0 := decide_eq_false c3
 clear c3
 revert H; refine pf_ fun c12 H => ?_
 have c12b0 := eq_true c12
 have c12b1 := decide_eq_true c12
 clear c12
 revert H; refine pf_ fun c13 H => ?_
 have c13b0 := eq_true c13
 have c13b1 := decide_eq_true c13
 clear c13
 revert H; refine pf_ fun c14 H => ?_
 have LMc14 := am_ c14
 clear c14
 obtain ⟨y717, hy717⟩ : ∃ y_ : List ByteArray, y_ = (x5_1 ++ [a0.extract (x6_1 : Int).toNat a0.size]) := ⟨_, rfl⟩
 (try with_reducible replace H := (Option.bind_some _ _).symm.trans H); (try dsimp only at H); (try rw [← hy717] at H)
 have Ny717 := am_ hy717
 clear hy717
 obtain rfl := Option.some.inj H
 go_wp2_with (first | ((with_reducible refine gate_builtin (b := .append) (xs := #[.tmp 28, .tmp 32]) rfl ?_); at_builtin; refine Kd.R_append Kd.string (w0 := w) w.heap.size rfl (.tmp 28) (.tmp 32) 58 9 (.string ⟨#[]⟩) 16 rfl Tryz.underlying58 info9 rfl (by decide) (by omega) u5 x5_1 (a0.extract (x6_1 : Int).toNat a0.size) [.string (a0.extract (x6_1 : Int).toNat a0.size)] (fun _ => True) (fun _ => False) rfl rfl ?aP (fun _ hk => hk.elim) ?aF ?aO ?aB ?aS ?aL ?_; (case aP => exact rfl); (case aB => exact (hb_ HB)); (case aF => exact (fun _ _ => trivial)); (case aO => exact (Kd.R_p HO_5)); (case aS => exact (below_size (hb_ HB))); (case aL => have := LMc14.out; omega); intro v718 w15 ho hb hg hat; rw [← Ny717.out] at ho; have HO719 := am_ (ho); replace HB := am_ (hb); clear HO_5; clear ho hb hg hat))
 go_ret
 exact ⟨_, se_, Kd.R_p HO719, hb_ HB⟩

/-! ### spec_l1Read: function 54 -/
mutual
def spec_l1Read.j0 : Nat → ByteArray → Bool → Option (Int)
 | 0, _, _ => none
 | k + 1, x0, x18 => if x18 = true then (some (-1)) else (spec_l1Read.l0 k x0 0 0)
def spec_l1Read.l0 : Nat → ByteArray → Int → Int → Option (Int)
 | 0, _, _, _ => none
 | k + 1, x0, x3, x4 => if x4 < (x0.size : Int) then (if 0 ≤ x4 then (if (bt x0 x4) < 48 then (some (-1)) else (if (bt x0 x4) > 57 then (some (-1)) else (spec_l1Read.l0 k x0 (wrap64 ((wrap64 (10 * x3)) + (((bt x0 x4) - 48) % 256))) (wrap64 (x4 + 1))))) else (none)) else (some x3)
end
def spec_l1Read.f (k : Nat) (a0 : ByteArray) : Option (Int) := (spec_l1In.f (a0.size : Int) 1 6).bind fun t720 => (if t720 = true then (if 0 < (a0.size : Int) then (if (bt a0 0) = 48 then (spec_l1Read.j0 k a0 (decide ((a0.size : Int) > 1))) else (spec_l1Read.j0 k a0 false)) else (none)) else (spec_l1Read.j0 k a0 true))
theorem spec_l1Read.calls (k : Nat) (a0 : ByteArray) (r : Int) (w : World) (h : spec_l1Read.f k a0 = some r) :
  Calls Tryz.prog 54 #[.string a0] w fun e w' => e = .returned (.int .i64 r) ∧ Drawn0 w w' := by
 have H := h
 unfold spec_l1Read.f at H
 clear h
 have HC2 := am_ H
 clear H
 go_enter Tryz.func54, Tryz.ntmps54
 go_upto_region 1 with (fail)
 go_cut [18] (fun v18 wc => ∃ (kq : Nat) (x18_1 : Bool), v18 = .bool x18_1 ∧ Aside0 (spec_l1Read.j0 kq a0 x18_1 = some r) ∧ Aside0 (kq ≤ k) ∧ Drawn0 w wc)
 case first =>
  have H := HC2.out
  clear HC2
  revert H; refine bn_ ?_; rintro t720 A3 H; try dsimp only at H
  by_cases c4 : t720 = true
  ·subst c4
   rw [if_pos rfl] at H
   revert H; refine pf_ fun c5 H => ?_
   have c5b0 := decide_eq_true c5
   have c5b1 : decide (0 < a0.size) = true := decide_eq_true (by omega)
   clear c5
   (first | rw [c5b0] | (simp only [i64_w, i32_w]; rw [c5b0]) | skip)
   by_cases c7 : (bt a0 0) = 48
   ·rw [if_pos c7] at H
    have c7b0 : ((bt a0 0) == 48) = true := beq_iff_eq.mpr c7
    have c7b1 : ((bt a0 0) != 48) = false := bne_eq_false_iff_eq.mpr c7
    clear c7
    have H' := am_ H
    clear H
    go_wp2_with (first | ((with_reducible refine gk_ 69 ?_); refine gq_ 7 Tryz.func69 #[.int .i64 (a0.size : Int), .int .i64 1, .int .i64 6] ?_; (with_reducible refine (spec_l1In.calls (a0.size : Int) 1 6 true _ A3.out).mono ?_); rintro e w' ⟨rfl, ⟨nd, rfl⟩⟩; refine ⟨_, rfl, ?_⟩; have p6 : 0 ≤ (0 : Int) := (by omega); have q6 : 0 < a0.size := (by have : (0 : Int) < (a0.size : Int) := od_; omega); have hx6 : ∀ h : 0 < a0.size, ((a0[0]'h).toNat : Int) = bt a0 0 := bt_at a0 0; clear p6; have qi6 : (0 < (a0.size : Int)) = True := eq_true (od_); replace q6 := eq_true q6))
    go_meet
    case rel => exact ⟨_, (decide ((a0.size : Int) > 1)), sr_, H', ⟨by first | omega | exact Nat.le_refl _⟩, by repeat (first | exact Drawn0.refl _ | apply Drawn0.step)⟩
   rw [if_neg c7] at H
   have c7b0 : ((bt a0 0) == 48) = false := beq_eq_false_iff_ne.mpr c7
   have c7b1 : ((bt a0 0) != 48) = true := bne_iff_ne.mpr c7
   have H' := am_ H
   clear H
   go_wp2_with (first | ((with_reducible refine gk_ 69 ?_); refine gq_ 7 Tryz.func69 #[.int .i64 (a0.size : Int), .int .i64 1, .int .i64 6] ?_; (with_reducible refine (spec_l1In.calls (a0.size : Int) 1 6 true _ A3.out).mono ?_); rintro e w' ⟨rfl, ⟨nd, rfl⟩⟩; refine ⟨_, rfl, ?_⟩; have p6 : 0 ≤ (0 : Int) := (by omega); have q6 : 0 < a0.size := (by have : (0 : Int) < (a0.size : Int) := od_; omega); have hx6 : ∀ h : 0 < a0.size, ((a0[0]'h).toNat : Int) = bt a0 0 := bt_at a0 0; clear p6; have qi6 : (0 < (a0.size : Int)) = True := eq_true (od_); replace q6 := eq_true q6))
   go_meet
   case rel => exact ⟨_, (false), sr_, H', ⟨by first | omega | exact Nat.le_refl _⟩, by repeat (first | exact Drawn0.refl _ | apply Drawn0.step)⟩
  replace c4 := Bool.eq_false_iff.mpr c4
  subst c4
  rw [if_neg (show ¬ (false = true) by decide)] at H
  have H' := am_ H
  clear H
  go_wp2_with (first | ((with_reducible refine gk_ 69 ?_); refine gq_ 7 Tryz.func69 #[.int .i64 (a0.size : Int), .int .i64 1, .int .i64 6] ?_; (with_reducible refine (spec_l1In.calls (a0.size : Int) 1 6 false _ A3.out).mono ?_); rintro e w' ⟨rfl, ⟨nd, rfl⟩⟩; refine ⟨_, rfl, ?_⟩))
  go_meet
  case rel => exact ⟨_, (true), sr_, H', ⟨by first | omega | exact Nat.le_refl _⟩, by repeat (first | exact Drawn0.refl _ | apply Drawn0.step)⟩
 clear HC2
 obtain ⟨kq, x18_1, rfl, HA, HJ1, ⟨mc1, rfl⟩⟩ := hcut
 cases kq with
 | zero => exact absurd HA.out (by simp [spec_l1Read.j0])
 | succ kj1 => ?_
 have H := HA.out
 clear HA
 simp only [spec_l1Read.j0] at H
 by_cases c8 : x18_1 = true
 ·subst c8
  rw [if_pos rfl] at H
  obtain rfl := Option.some.inj H
  go_wp2
  go_ret
  exact ⟨by first | rfl | (simp; done) | (simp [*]; done), by repeat (first | exact Drawn0.refl _ | apply Drawn0.step)⟩
 replace c8 := Bool.eq_false_iff.mpr c8
 subst c8
 rw [if_neg (show ¬ (false = true) by decide)] at H
 have H' := am_ H
 clear H
 go_wp2
 go_loopg [3, 4] kj1 (fun kq v3 v4 w' => ∃ (x3_2 : Int) (x4_2 : Int), v3 = .int .i64 x3_2 ∧ v4 = .int .i64 x4_2 ∧ Aside0 (spec_l1Read.l0 kq a0 x3_2 x4_2 = some r) ∧ Aside0 (kq ≤ kj1) ∧ Drawn0 w w')
 case atStart => exact ⟨(0), (0), sr_, sr_, H', ⟨Nat.le_refl _⟩, by repeat (first | exact Drawn0.refl _ | apply Drawn0.step)⟩
 clear H'
 obtain ⟨x3_2, x4_2, rfl, rfl, HA, HK2, ⟨m2, rfl⟩⟩ := hrel
 cases gk with
 | zero => exact absurd HA.out (by simp [spec_l1Read.l0])
 | succ k2 => ?_
 have H := HA.out
 clear HA
 simp only [spec_l1Read.l0] at H
 by_cases c9 : x4_2 < (a0.size : Int)
 case neg => rw [if_neg c9] at H; have c9b0 := decide_eq_false c9; clear c9; obtain rfl := Option.some.inj H; go_wp2; go_ret; (exact ⟨by first | rfl | (simp; done) | (simp [*]; done), by repeat (first | exact Drawn0.refl _ | apply Drawn0.step)⟩)
 rw [if_pos c9] at H
 have c9b0 := decide_eq_true c9
 clear c9
 revert H; refine pd_ fun c10b0 H => ?_
 by_cases c12 : (bt a0 x4_2) < 48
 ·rw [if_pos c12] at H
  have c12b0 := decide_eq_true c12
  clear c12
  obtain rfl := Option.some.inj H
  have p11 : 0 ≤ (x4_2 : Int) := od_
  have q11 : x4_2 < (a0.size : Int) := od_
  have hx11 := bt_at a0 x4_2
  replace p11 := eq_true p11
  replace q11 := eq_true q11
  go_wp2
  go_ret
  exact ⟨by first | rfl | (simp; done) | (simp [*]; done), by repeat (first | exact Drawn0.refl _ | apply Drawn0.step)⟩
 rw [if_neg c12] at H
 have c12b0 := decide_eq_false c12
 clear c12
 by_cases c14 : (bt a0 x4_2) > 57
 ·rw [if_pos c14] at H
  have c14b0 : decide (57 < (bt a0 x4_2)) = true := decide_eq_true c14
  clear c14
  obtain rfl := Option.some.inj H
  have p11 : 0 ≤ (x4_2 : Int) := od_
  have q11 : x4_2 < (a0.size : Int) := od_
  have hx11 := bt_at a0 x4_2
  replace p11 := eq_true p11
  replace q11 := eq_true q11
  have p13 : 0 ≤ (x4_2 : Int) := od_
  have q13 : x4_2 < (a0.size : Int) := od_
  have hx13 := bt_at a0 x4_2
  replace p13 := eq_true p13
  replace q13 := eq_true q13
  go_wp2
  go_ret
  exact ⟨by first | rfl | (simp; done) | (simp [*]; done), by repeat (first | exact Drawn0.refl _ | apply Drawn0.step)⟩
 rw [if_neg c14] at H
 have c14b0 : decide (57 < (bt a0 x4_2)) = false := decide_eq_false c14
 clear c14
 have H' := am_ H
 clear H
 have p11 : 0 ≤ (x4_2 : Int) := od_
 have q11 : x4_2 < (a0.size : Int) := od_
 have hx11 := bt_at a0 x4_2
 replace p11 := eq_true p11
 replace q11 := eq_true q11
 have p13 : 0 ≤ (x4_2 : Int) := od_
 have q13 : x4_2 < (a0.size : Int) := od_
 have hx13 := bt_at a0 x4_2
 replace p13 := eq_true p13
 replace q13 := eq_true q13
 have p15 : 0 ≤ (x4_2 : Int) := od_
 have q15 : x4_2 < (a0.size : Int) := od_
 have hx15 := bt_at a0 x4_2
 replace p15 := eq_true p15
 replace q15 := eq_true q15
 go_wp2
 go_roundg k2
 case measure => have := HJ1.out; have := HK2.out; omega
 case rel => exact ⟨(wrap64 ((wrap64 (10 * x3_2)) + (((bt a0 x4_2) - 48) % 256))), (wrap64 (x4_2 + 1)), sr_, sr_, H', ⟨by have := HJ1.out; have := HK2.out; omega⟩, by repeat (first | exact Drawn0.refl _ | apply Drawn0.step)⟩

end Go.Proofs.YthphbkkkbolcnaaGreatDoor.PFnModels
