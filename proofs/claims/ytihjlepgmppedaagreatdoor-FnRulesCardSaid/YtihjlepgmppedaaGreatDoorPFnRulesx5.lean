-- Laid for this claim by wip/tools/print2.sh, a changed copy of the kit's print (wip/tools/patch_print.py): not by print.sh. Changed by wip/fix/strsize.py.
import Derived.Test.YtihjlepgmppedaaGreatDoorPFnRulesx4
import Derived.Test.YtihjlepgmppedaaGreatDoorVFnRules
namespace Go.Proofs.YtihjlepgmppedaaGreatDoor.PFnRules
set_option maxHeartbeats 8000000
set_option maxRecDepth 100000
open Go.RowKit Go.Proofs.YtihjlepgmppedaaGreatDoorW.PrintWords Go.Proofs.YtihjlepgmppedaaGreatDoorW.PrintLast Go.Proofs.YtihjlepgmppedaaGreatDoorW.PrintMore
set_option linter.unusedVariables false
set_option linter.unusedSimpArgs false

/-! ### spec_ParseRule: function 9 -/
def spec_ParseRule.f (k : Nat) (a0 : ByteArray) : Option (List S73 × Bool) :=
 if 600 < a0.size then some ([], false) else (ruRun k a0).bind fun r => if r.2.2 = true then (spec_ruGood.f k r.2.1).bind fun b => if b = true then some (r.2.1, true) else some ([], false) else some ([], false)
theorem spec_ParseRule.calls (k : Nat) (a0 : ByteArray) (r1 : List S73) (r2 : Bool) (w : World) (h : spec_ParseRule.f k a0 = some (r1, r2)) :
  Calls Tryz.prog 9 #[.string a0] w fun e w' => ∃ v0_ : Value, e = .returned (.tuple #[v0_, .bool r2]) ∧ Kd.R k73 73 w' w.heap.size (fun _ => True) v0_ r1 ∧ Below w.heap.size w w' := by
 unfold spec_ParseRule.f at h
 by_cases hl : 600 < a0.size
 ·rw [if_pos hl] at h
  simp only [Option.some.injEq, Prod.mk.injEq] at h
  obtain ⟨rfl, rfl⟩ := h
  have d1 : decide ((600 : Int) < (a0.size : Int)) = true := decide_eq_true (by omega)
  have d2 : decide (600 < a0.size) = true := decide_eq_true hl
  clear hl
  go_enter Tryz.func9, Tryz.ntmps9
  go_wp2
  go_ret2
  exact ⟨_, rfl, Kd.R_nil _ _ _ _ _, Below.refl _ _⟩
 rw [if_neg hl] at h
 have d1 : decide ((600 : Int) < (a0.size : Int)) = false := decide_eq_false (by omega)
 have d2 : decide (600 < a0.size) = false := decide_eq_false hl
 clear hl
 obtain ⟨⟨j, o, ok⟩, e1, h⟩ := Option.bind_eq_some_iff.mp h
 have E1 := am_ e1
 clear e1
 by_cases hok : ok = true
 ·subst hok
  rw [if_pos rfl] at h
  obtain ⟨b, e2, h⟩ := Option.bind_eq_some_iff.mp h
  have E2 := am_ e2
  clear e2
  by_cases hb : b = true
  ·subst hb
   rw [if_pos rfl] at h
   simp only [Option.some.injEq, Prod.mk.injEq] at h
   obtain ⟨rfl, rfl⟩ := h
   go_enter Tryz.func9, Tryz.ntmps9
   go_wp2_with (first | ((with_reducible refine gk_ 35 ?_); refine gq_ 11 Tryz.func35 #[.string a0] ?_; (with_reducible refine (ruParse_calls k a0 j o true _ E1.out).mono ?_); rintro e w1 ⟨g, ws, rfl, hr_⟩; refine ⟨_, rfl, ?_⟩; have HI := am_ hr_; clear hr_; obtain ⟨Ap, cp, hd2, hpl, HC, HO⟩ := HI.out.parts) | ((with_reducible refine gk_ 26 ?_); (try (refine gate_guard (by rfl) ?_; dsimp only)); refine gq_ 21 Tryz.func26 #[.slice Ap o.length cp] ?_; (with_reducible refine (spec_ruGood.calls k Ap cp o true _ ?sa ?sb E2.out).mono ?_); (case sa => exact HC.out); (case sb => exact hpl); rintro e w2 ⟨rfl, hbq_⟩; refine ⟨_, rfl, ?_⟩; have HB := am_ hbq_; have hd2' := HB.out.cell (p := ⟨g, 2, none⟩) (World.block_lt_of_cell? _ _ hd2); rw [hd2] at hd2'; clear hbq_))
   go_ret2
   exact ⟨_, rfl, Kd.R_below HO.out HB.out, below_step HI.out.2.1 HB.out⟩
  replace hb := Bool.eq_false_iff.mpr hb
  subst hb
  rw [if_neg (by simp)] at h
  simp only [Option.some.injEq, Prod.mk.injEq] at h
  obtain ⟨rfl, rfl⟩ := h
  go_enter Tryz.func9, Tryz.ntmps9
  go_wp2_with (first | ((with_reducible refine gk_ 35 ?_); refine gq_ 11 Tryz.func35 #[.string a0] ?_; (with_reducible refine (ruParse_calls k a0 j o true _ E1.out).mono ?_); rintro e w1 ⟨g, ws, rfl, hr_⟩; refine ⟨_, rfl, ?_⟩; have HI := am_ hr_; clear hr_; obtain ⟨Ap, cp, hd2, hpl, HC, HO⟩ := HI.out.parts) | ((with_reducible refine gk_ 26 ?_); (try (refine gate_guard (by rfl) ?_; dsimp only)); refine gq_ 21 Tryz.func26 #[.slice Ap o.length cp] ?_; (with_reducible refine (spec_ruGood.calls k Ap cp o false _ ?sa ?sb E2.out).mono ?_); (case sa => exact HC.out); (case sb => exact hpl); rintro e w2 ⟨rfl, hbq_⟩; refine ⟨_, rfl, ?_⟩; have HB := am_ hbq_; have hd2' := HB.out.cell (p := ⟨g, 2, none⟩) (World.block_lt_of_cell? _ _ hd2); rw [hd2] at hd2'; clear hbq_))
  go_ret2
  exact ⟨_, rfl, Kd.R_nil _ _ _ _ _, below_step HI.out.2.1 HB.out⟩
 replace hok := Bool.eq_false_iff.mpr hok
 subst hok
 rw [if_neg (by simp)] at h
 simp only [Option.some.injEq, Prod.mk.injEq] at h
 obtain ⟨rfl, rfl⟩ := h
 go_enter Tryz.func9, Tryz.ntmps9
 go_wp2_with (first | ((with_reducible refine gk_ 35 ?_); refine gq_ 11 Tryz.func35 #[.string a0] ?_; (with_reducible refine (ruParse_calls k a0 j o false _ E1.out).mono ?_); rintro e w1 ⟨g, ws, rfl, hr_⟩; refine ⟨_, rfl, ?_⟩; have HI := am_ hr_; clear hr_))
 go_ret2
 exact ⟨_, rfl, Kd.R_nil _ _ _ _ _, HI.out.2.1⟩

/-! ### spec_l1Cur_of: function 31 -/
def spec_l1Cur_of.f (s0_0 : List Int) (s0_1 : Int) (s0_2 : Int) (l1 : List ByteArray) : Option (ByteArray × Int × Int) := (spec_l1Cur_pick.f s0_0 s0_1 s0_2 (l1.length : Int)).bind fun bt169 => (if 0 ≤ bt169.1 then (if bt169.1 < (l1.length : Int) then (some (rdOf ByteArray.empty l1 bt169.1, bt169.2.1, bt169.2.2)) else (none)) else (none))
theorem spec_l1Cur_of.calls (g : Nat) (s0_0 : List Int) (s0_1 : Int) (s0_2 : Int) (A1 : Option Addr) (c1 : Nat) (l1 : List ByteArray) (r1 : ByteArray) (r2 : Int) (r3 : Int) (w0 w : World) (hI : IsS48 w0 w g s0_0 s0_1 s0_2) (hB : Below w0.heap.size w0 w) (hr1 : Kd.C Kd.string w A1 l1.length l1) (hc1 : l1.length ≤ c1) (hf1 : ∀ ad, A1 = some ad → 0 < l1.length → ad.block ≠ g) (h : spec_l1Cur_of.f s0_0 s0_1 s0_2 l1 = some (r1, r2, r3)) :
  Calls Tryz.prog 31 #[.pointer (some ⟨g, 0, none⟩), .slice A1 l1.length c1] w fun e w' => e = .returned (.string r1) ∧ IsS48 w0 w' g s0_0 r2 r3 ∧ Below w0.heap.size w0 w' ∧ KeepBut w w' g none := by
 have HR1 := am_ hr1
 have HC1 := am_ hc1
 clear hr1 hc1
 have HI0 := am_ hI
 have HK := am_ (KeepBut.refl w g none)
 have HL := am_ hB.size
 clear hI
 have HW0 := am_ hB.size
 have HB := am_ hB
 clear hB
 have H := h
 unfold spec_l1Cur_of.f at H
 clear h
 revert H; refine bn_ ?_; rintro ⟨t169, t170, t171⟩ A3 H; try dsimp only at H
 revert H; refine pd_ fun c4b0 H => ?_
 revert H; refine pd_ fun c5b0 H => ?_
 simp only [Option.some.injEq, Prod.mk.injEq] at H
 obtain ⟨rfl, rfl, rfl⟩ := H
 go_enter Tryz.func31, Tryz.ntmps31
 go_wp2_with (first | ((with_reducible refine gk_ 29 ?_); refine gq_ 9 Tryz.func29 #[.pointer (some ⟨g, 0, none⟩), .int .i64 (l1.length : Int)] ?_; (with_reducible refine (spec_l1Cur_pick.calls g s0_0 s0_1 s0_2 (l1.length : Int) t169 t170 t171 w0 _ ?_ ?_ A3.out).mono ?_); exact IsS48.q HI0; exact hbI_ HB (IsS48.ge HI0.out); rintro e w6 ⟨rfl, hi, hb, hk⟩; refine ⟨_, rfl, ?_⟩; replace HK := kt_ HK hk; replace HB := am_ (hb); replace HI0 := am_ (hi); have p172 : 0 ≤ (t169 : Int) := od_; have q172 : t169 < (l1.length : Int) := od_; obtain ⟨ad172, e172, hx172_0⟩ := Kd.at_string HR1.out t169 p172 q172; cases e172; replace hx172_0 := keep_cell HK.out hx172_0 (by first | (rw [add_block]; exact hf1 _ rfl (by omega)) | exact hf1 _ rfl (by omega) | exact hf1 ad172 rfl (by omega)); replace p172 := eq_true p172; replace q172 := eq_true q172))
 go_ret
 exact ⟨se_, IsS48.q HI0, hbI_ HB (IsS48.ge HI0.out), hk_ HK⟩

/-! ### spec_l1Cur_one: function 32 -/
def spec_l1Cur_one.f (s0_0 : List Int) (s0_1 : Int) (s0_2 : Int) (a1 : Int) : Option (Bool × Int × Int) := (spec_l1Cur_pick.f s0_0 s0_1 s0_2 a1).bind fun bt173 => (some ((bt173.1 == 0), bt173.2.1, bt173.2.2))
theorem spec_l1Cur_one.calls (g : Nat) (s0_0 : List Int) (s0_1 : Int) (s0_2 : Int) (a1 : Int) (r1 : Bool) (r2 : Int) (r3 : Int) (w0 w : World) (hI : IsS48 w0 w g s0_0 s0_1 s0_2) (hB : Below w0.heap.size w0 w) (h : spec_l1Cur_one.f s0_0 s0_1 s0_2 a1 = some (r1, r2, r3)) :
  Calls Tryz.prog 32 #[.pointer (some ⟨g, 0, none⟩), .int .i64 a1] w fun e w' => e = .returned (.bool r1) ∧ IsS48 w0 w' g s0_0 r2 r3 ∧ Below w0.heap.size w0 w' ∧ KeepBut w w' g none := by
 have HI0 := am_ hI
 have HK := am_ (KeepBut.refl w g none)
 have HL := am_ hB.size
 clear hI
 have HW0 := am_ hB.size
 have HB := am_ hB
 clear hB
 have H := h
 unfold spec_l1Cur_one.f at H
 clear h
 revert H; refine bn_ ?_; rintro ⟨t173, t174, t175⟩ A3 H; try dsimp only at H
 simp only [Option.some.injEq, Prod.mk.injEq] at H
 obtain ⟨rfl, rfl, rfl⟩ := H
 go_enter Tryz.func32, Tryz.ntmps32
 go_wp2_with (first | ((with_reducible refine gk_ 29 ?_); refine gq_ 7 Tryz.func29 #[.pointer (some ⟨g, 0, none⟩), .int .i64 a1] ?_; (with_reducible refine (spec_l1Cur_pick.calls g s0_0 s0_1 s0_2 a1 t173 t174 t175 w0 _ ?_ ?_ A3.out).mono ?_); exact IsS48.q HI0; exact hbI_ HB (IsS48.ge HI0.out); rintro e w4 ⟨rfl, hi, hb, hk⟩; refine ⟨_, rfl, ?_⟩; replace HK := kt_ HK hk; replace HB := am_ (hb); replace HI0 := am_ (hi)))
 go_ret
 exact ⟨se_, IsS48.q HI0, hbI_ HB (IsS48.ge HI0.out), hk_ HK⟩

/-! ### spec_l1Cur_wording: function 28 -/
mutual
def spec_l1Cur_wording.j0 : Nat → Int → Bool → List Int → Int → Int → Option (ByteArray × Int × Int)
 | 0, _, _, _, _, _ => none
 | k + 1, x1, x12, x1000, x1001, x1002 => if x12 = true then ((spec_l1Cur_one.f x1000 x1001 x1002 2).bind fun bt179 => (if bt179.1 = true then ((spec_ruFields.f).bind fun t182 => ((spec_l1Cur_of.f x1000 bt179.2.1 bt179.2.2 t182).bind fun bt185 => (some (bt185.1, bt185.2.1, bt185.2.2)))) else ((spec_l1Cur_of.f x1000 bt179.2.1 bt179.2.2 (([⟨#[48]⟩, ⟨#[49]⟩, ⟨#[50]⟩, ⟨#[51]⟩, ⟨#[53]⟩, ⟨#[49, 50]⟩, ⟨#[49, 48, 48]⟩, ⟨#[49, 48, 48, 48]⟩, ⟨#[49, 48, 48, 48, 48, 48, 48]⟩] : List ByteArray))).bind fun bt191 => (some (bt191.1, bt191.2.1, bt191.2.2))))) else ((spec_l1Cur_wording.f k x1000 x1001 x1002 (wrap64 (x1 - 1))).bind fun bt194 => ((spec_l1Cur_wording.f k x1000 bt194.2.1 bt194.2.2 (wrap64 (x1 - 1))).bind fun bt197 => ((spec_l1Cur_pick.f x1000 bt197.2.1 bt197.2.2 7).bind fun bt200 => (if bt200.1 = 0 then (if 3 + bt194.1.size ≤ 9223372036854775807 then ((spec_l1Cur_of.f x1000 bt200.2.1 bt200.2.2 (([⟨#[32, 60, 32]⟩, ⟨#[32, 61, 32]⟩, ⟨#[32, 62, 32]⟩] : List ByteArray))).bind fun bt206 => (if ((⟨#[105, 102, 32]⟩ : ByteArray) ++ bt194.1).size + bt206.1.size ≤ 9223372036854775807 then (if (((⟨#[105, 102, 32]⟩ : ByteArray) ++ bt194.1) ++ bt206.1).size + bt197.1.size ≤ 9223372036854775807 then (if ((((⟨#[105, 102, 32]⟩ : ByteArray) ++ bt194.1) ++ bt206.1) ++ bt197.1).size + 6 ≤ 9223372036854775807 then ((spec_l1Cur_wording.f k x1000 bt206.2.1 bt206.2.2 (wrap64 (x1 - 1))).bind fun bt209 => (if (((((⟨#[105, 102, 32]⟩ : ByteArray) ++ bt194.1) ++ bt206.1) ++ bt197.1) ++ (⟨#[32, 116, 104, 101, 110, 32]⟩ : ByteArray)).size + bt209.1.size ≤ 9223372036854775807 then (if ((((((⟨#[105, 102, 32]⟩ : ByteArray) ++ bt194.1) ++ bt206.1) ++ bt197.1) ++ (⟨#[32, 116, 104, 101, 110, 32]⟩ : ByteArray)) ++ bt209.1).size + 6 ≤ 9223372036854775807 then ((spec_l1Cur_wording.f k x1000 bt209.2.1 bt209.2.2 (wrap64 (x1 - 1))).bind fun bt212 => (if (((((((⟨#[105, 102, 32]⟩ : ByteArray) ++ bt194.1) ++ bt206.1) ++ bt197.1) ++ (⟨#[32, 116, 104, 101, 110, 32]⟩ : ByteArray)) ++ bt209.1) ++ (⟨#[32, 101, 108, 115, 101, 32]⟩ : ByteArray)).size + bt212.1.size ≤ 9223372036854775807 then (some ((((((((⟨#[105, 102, 32]⟩ : ByteArray) ++ bt194.1) ++ bt206.1) ++ bt197.1) ++ (⟨#[32, 116, 104, 101, 110, 32]⟩ : ByteArray)) ++ bt209.1) ++ (⟨#[32, 101, 108, 115, 101, 32]⟩ : ByteArray)) ++ bt212.1, bt212.2.1, bt212.2.2)) else (none))) else (none)) else (none))) else (none)) else (none)) else (none))) else (none)) else (if bt200.1 = 1 then (if 2 + bt194.1.size ≤ 9223372036854775807 then (if ((⟨#[40, 32]⟩ : ByteArray) ++ bt194.1).size + 2 ≤ 9223372036854775807 then (some (((⟨#[40, 32]⟩ : ByteArray) ++ bt194.1) ++ (⟨#[32, 41]⟩ : ByteArray), bt200.2.1, bt200.2.2)) else (none)) else (none)) else (if bt200.1 = 2 then (if 2 + bt194.1.size ≤ 9223372036854775807 then (if ((⟨#[40, 32]⟩ : ByteArray) ++ bt194.1).size + 3 ≤ 9223372036854775807 then ((spec_l1Cur_of.f x1000 bt200.2.1 bt200.2.2 (([⟨#[42]⟩, ⟨#[47]⟩, ⟨#[45]⟩] : List ByteArray))).bind fun bt218 => (if (((⟨#[40, 32]⟩ : ByteArray) ++ bt194.1) ++ (⟨#[32, 41, 32]⟩ : ByteArray)).size + bt218.1.size ≤ 9223372036854775807 then (if ((((⟨#[40, 32]⟩ : ByteArray) ++ bt194.1) ++ (⟨#[32, 41, 32]⟩ : ByteArray)) ++ bt218.1).size + 3 ≤ 9223372036854775807 then (if (((((⟨#[40, 32]⟩ : ByteArray) ++ bt194.1) ++ (⟨#[32, 41, 32]⟩ : ByteArray)) ++ bt218.1) ++ (⟨#[32, 40, 32]⟩ : ByteArray)).size + bt197.1.size ≤ 9223372036854775807 then (if ((((((⟨#[40, 32]⟩ : ByteArray) ++ bt194.1) ++ (⟨#[32, 41, 32]⟩ : ByteArray)) ++ bt218.1) ++ (⟨#[32, 40, 32]⟩ : ByteArray)) ++ bt197.1).size + 2 ≤ 9223372036854775807 then (some (((((((⟨#[40, 32]⟩ : ByteArray) ++ bt194.1) ++ (⟨#[32, 41, 32]⟩ : ByteArray)) ++ bt218.1) ++ (⟨#[32, 40, 32]⟩ : ByteArray)) ++ bt197.1) ++ (⟨#[32, 41]⟩ : ByteArray), bt218.2.1, bt218.2.2)) else (none)) else (none)) else (none)) else (none))) else (none)) else (none)) else (if bt194.1.size + 1 ≤ 9223372036854775807 then ((spec_l1Cur_of.f x1000 bt200.2.1 bt200.2.2 (([⟨#[43]⟩, ⟨#[45]⟩, ⟨#[42]⟩, ⟨#[47]⟩] : List ByteArray))).bind fun bt224 => (if (bt194.1 ++ (⟨#[32]⟩ : ByteArray)).size + bt224.1.size ≤ 9223372036854775807 then (if ((bt194.1 ++ (⟨#[32]⟩ : ByteArray)) ++ bt224.1).size + 1 ≤ 9223372036854775807 then (if (((bt194.1 ++ (⟨#[32]⟩ : ByteArray)) ++ bt224.1) ++ (⟨#[32]⟩ : ByteArray)).size + bt197.1.size ≤ 9223372036854775807 then (some ((((bt194.1 ++ (⟨#[32]⟩ : ByteArray)) ++ bt224.1) ++ (⟨#[32]⟩ : ByteArray)) ++ bt197.1, bt224.2.1, bt224.2.2)) else (none)) else (none)) else (none))) else (none))))))))
def spec_l1Cur_wording.f : Nat → List Int → Int → Int → Int → Option (ByteArray × Int × Int)
 | 0, _, _, _, _ => none
 | k + 1, s0_0, s0_1, s0_2, a1 => if a1 = 0 then (spec_l1Cur_wording.j0 k a1 true s0_0 s0_1 s0_2) else ((spec_l1Cur_one.f s0_0 s0_1 s0_2 4).bind fun bt176 => (spec_l1Cur_wording.j0 k a1 bt176.1 s0_0 bt176.2.1 bt176.2.2))
end
theorem spec_l1Cur_wording.calls (k : Nat) : ∀ (g : Nat) (s0_0 : List Int) (s0_1 : Int) (s0_2 : Int) (a1 : Int) (r1 : ByteArray) (r2 : Int) (r3 : Int) (w0 w : World) (hI : IsS48 w0 w g s0_0 s0_1 s0_2) (hB : Below w0.heap.size w0 w) (h : spec_l1Cur_wording.f k s0_0 s0_1 s0_2 a1 = some (r1, r2, r3)),
  Calls Tryz.prog 28 #[.pointer (some ⟨g, 0, none⟩), .int .i64 a1] w fun e w' => e = .returned (.string r1) ∧ IsS48 w0 w' g s0_0 r2 r3 ∧ Below w0.heap.size w0 w' ∧ KeepBut w w' g none := by
 induction k using Nat.strongRecOn with
 | _ k ih =>
 intro g s0_0 s0_1 s0_2 a1 r1 r2 r3 w0 w hI hB h
 cases k with
 | zero => exact absurd h (by simp [spec_l1Cur_wording.f])
 | succ k =>
 simp only [spec_l1Cur_wording.f] at h
 have HI0 := am_ hI
 have HK := am_ (KeepBut.refl w g none)
 have HL := am_ hB.size
 clear hI
 have HW0 := am_ hB.size
 have HB := am_ hB
 clear hB
 have H := h
 clear h
 have HC3 := am_ H
 clear H
 go_enter Tryz.func28, Tryz.ntmps28
 go_upto_region 1 with (fail)
 go_cut [12] (fun v12 wc => ∃ (kq : Nat) (x12_2 : Bool) (x1001_2 : Int) (x1002_2 : Int), v12 = .bool x12_2 ∧ Aside0 (spec_l1Cur_wording.j0 kq a1 x12_2 s0_0 x1001_2 x1002_2 = some (r1, r2, r3)) ∧ Aside0 (kq ≤ k) ∧ Aside0 (IsS48 w0 wc g s0_0 x1001_2 x1002_2) ∧ Aside0 (KeepBut w wc g none) ∧ Aside0 (Below w0.heap.size w0 wc))
 case first =>
  have H := HC3.out
  clear HC3
  by_cases c4 : a1 = 0
  ·rw [if_pos c4] at H
   have c4b0 : (a1 == 0) = true := beq_iff_eq.mpr c4
   have c4b1 : (a1 != 0) = false := bne_eq_false_iff_eq.mpr c4
   clear c4
   (first | rw [c4b0] | (simp only [i64_w, i32_w]; rw [c4b0]) | skip)
   have H' := am_ H
   clear H
   go_wp2
   go_meet
   case rel => exact ⟨_, (true), (s0_1), (s0_2), sr_, H', ⟨by first | omega | exact Nat.le_refl _⟩, ⟨IsS48.q HI0⟩, ⟨hk_ HK⟩, ⟨hbI_ HB (IsS48.ge HI0.out)⟩⟩
  rw [if_neg c4] at H
  have c4b0 : (a1 == 0) = false := beq_eq_false_iff_ne.mpr c4
  have c4b1 : (a1 != 0) = true := bne_iff_ne.mpr c4
  (first | rw [c4b0] | (simp only [i64_w, i32_w]; rw [c4b0]) | skip)
  revert H; refine bn_ ?_; rintro ⟨t176, t177, t178⟩ A5 H; try dsimp only at H
  have H' := am_ H
  clear H
  go_wp2_with (first | (go_at_call 32; (with_reducible refine (spec_l1Cur_one.calls g s0_0 s0_1 s0_2 4 t176 t177 t178 w0 _ ?_ ?_ A5.out).mono ?_); exact IsS48.q HI0; exact hbI_ HB (IsS48.ge HI0.out); rintro e w6 ⟨rfl, hi, hb, hk⟩; replace HK := kt_ HK hk; replace HB := am_ (hb); replace HI0 := am_ (hi)))
  go_meet
  case rel => exact ⟨_, (t176), (t177), (t178), sr_, H', ⟨by first | omega | exact Nat.le_refl _⟩, ⟨IsS48.q HI0⟩, ⟨hk_ HK⟩, ⟨hbI_ HB (IsS48.ge HI0.out)⟩⟩
 clear HC3
 obtain ⟨kq, x12_2, x1001_2, x1002_2, rfl, HA, HJ2, HI0, HK, HB⟩ := hcut
 cases kq with
 | zero => exact absurd HA.out (by simp [spec_l1Cur_wording.j0])
 | succ kj2 => ?_
 have H := HA.out
 clear HA
 simp only [spec_l1Cur_wording.j0] at H
 by_cases c7 : x12_2 = true
 ·subst c7
  rw [if_pos rfl] at H
  revert H; refine bn_ ?_; rintro ⟨t179, t180, t181⟩ A8 H; try dsimp only at H
  by_cases c9 : t179 = true
  ·subst c9
   rw [if_pos rfl] at H
   revert H; refine bn_ ?_; rintro t182 A10 H; try dsimp only at H
   revert H; refine bn_ ?_; rintro ⟨t185, t186, t187⟩ A11 H; try dsimp only at H
   simp only [Option.some.injEq, Prod.mk.injEq] at H
   obtain ⟨rfl, rfl, rfl⟩ := H
   go_wp2_with (first | ((with_reducible refine gk_ 32 ?_); refine gq_ 14 Tryz.func32 #[.pointer (some ⟨g, 0, none⟩), .int .i64 2] ?_; (with_reducible refine (spec_l1Cur_one.calls g s0_0 x1001_2 x1002_2 2 true t180 t181 w0 _ ?_ ?_ A8.out).mono ?_); exact IsS48.q HI0; exact hbI_ HB (IsS48.ge HI0.out); rintro e w12 ⟨rfl, hi, hb, hk⟩; refine ⟨_, rfl, ?_⟩; replace HK := kt_ HK hk; replace HB := am_ (hb); replace HI0 := am_ (hi)) | ((with_reducible refine gk_ 48 ?_); refine gq_ 16 Tryz.func48 #[] ?_; (with_reducible refine (spec_ruFields.calls  t182 _ A10.out).mono ?_); rintro e w13 ⟨v183, rfl, ho0, hb⟩; refine ⟨_, rfl, ?_⟩; have HO184 := am_ (Kd.R_lower ho0 (keep_size (hk_ HK))); replace HK := hkb_ HK hb; replace HB := am_ (below_step (hbI_ HB (IsS48.ge HI0.out)) hb); replace HI0 := IsS48.b HI0 hb; obtain ⟨Ao14, co14, eo14⟩ := Kd.R_slice HO184.out; subst eo14) | ((with_reducible refine gk_ 31 ?_); refine gq_ 17 Tryz.func31 #[.pointer (some ⟨g, 0, none⟩), .slice Ao14 t182.length co14] ?_; (with_reducible refine (spec_l1Cur_of.calls g s0_0 t180 t181 _ _ t182 t185 t186 t187 w0 _ ?_ ?_ ?_ ?_ ?_ A11.out).mono ?_); exact IsS48.q HI0; exact hbI_ HB (IsS48.ge HI0.out); exact Kd.C_o HO184; exact (Kd.R_reads' HO184.out).2.1; exact far_slice (IsS48.own_ne HI0.out HO184.out (by decide)); rintro e w15 ⟨rfl, hi, hb, hk⟩; refine ⟨_, rfl, ?_⟩; replace HO184 := IsS48.rk HI0 HO184 hk; replace HK := kt_ HK hk; replace HB := am_ (hb); replace HI0 := am_ (hi)))
   go_ret
   exact ⟨se_, IsS48.q HI0, hbI_ HB (IsS48.ge HI0.out), hk_ HK⟩
  replace c9 := Bool.eq_false_iff.mpr c9
  subst c9
  rw [if_neg (show ¬ (false = true) by decide)] at H
  obtain ⟨y188, hy188⟩ : ∃ y_ : List ByteArray, y_ = (([⟨#[48]⟩, ⟨#[49]⟩, ⟨#[50]⟩, ⟨#[51]⟩, ⟨#[53]⟩, ⟨#[49, 50]⟩, ⟨#[49, 48, 48]⟩, ⟨#[49, 48, 48, 48]⟩, ⟨#[49, 48, 48, 48, 48, 48, 48]⟩] : List ByteArray)) := ⟨_, rfl⟩
  (try with_reducible replace H := (Option.bind_some _ _).symm.trans H); (try dsimp only at H); (try rw [← hy188] at H)
  have Ny188 := am_ hy188
  clear hy188
  revert H; refine bn_ ?_; rintro ⟨t191, t192, t193⟩ A16 H; try dsimp only at H
  simp only [Option.some.injEq, Prod.mk.injEq] at H
  obtain ⟨rfl, rfl, rfl⟩ := H
  go_wp2_with (first | ((with_reducible refine gk_ 32 ?_); refine gq_ 14 Tryz.func32 #[.pointer (some ⟨g, 0, none⟩), .int .i64 2] ?_; (with_reducible refine (spec_l1Cur_one.calls g s0_0 x1001_2 x1002_2 2 false t180 t181 w0 _ ?_ ?_ A8.out).mono ?_); exact IsS48.q HI0; exact hbI_ HB (IsS48.ge HI0.out); rintro e w17 ⟨rfl, hi, hb, hk⟩; refine ⟨_, rfl, ?_⟩; replace HK := kt_ HK hk; replace HB := am_ (hb); replace HI0 := am_ (hi)) | ((with_reducible refine gate_dst (N := 19) rfl ?_); refine Kd.R_lit Kd.string _ 9 ?hg (N := 19) ?hd (xs := ([⟨#[48]⟩, ⟨#[49]⟩, ⟨#[50]⟩, ⟨#[51]⟩, ⟨#[53]⟩, ⟨#[49, 50]⟩, ⟨#[49, 48, 48]⟩, ⟨#[49, 48, 48, 48]⟩, ⟨#[49, 48, 48, 48, 48, 48, 48]⟩] : List ByteArray)) (inner := [.string ⟨#[48]⟩, .string ⟨#[49]⟩, .string ⟨#[50]⟩, .string ⟨#[51]⟩, .string ⟨#[53]⟩, .string ⟨#[49, 50]⟩, .string ⟨#[49, 48, 48]⟩, .string ⟨#[49, 48, 48, 48]⟩, .string ⟨#[49, 48, 48, 48, 48, 48, 48]⟩]) (ok := fun _ => True) (okp := fun _ => True) ?hr ?hp (fun _ hk => hk) trivial (Below.refl _ _) (Nat.le_refl _) (by simp) ?_; (case hd => rfl); (case hg => rfl); (case hr => first | (go_simp; done) | (go_simp; rfl)); (case hp => exact (Reps.one (show Kd.M Kd.string _ _ _ (⟨#[48]⟩ : ByteArray) [.string ⟨#[48]⟩] from rfl) (Reps.one (show Kd.M Kd.string _ _ _ (⟨#[49]⟩ : ByteArray) [.string ⟨#[49]⟩] from rfl) (Reps.one (show Kd.M Kd.string _ _ _ (⟨#[50]⟩ : ByteArray) [.string ⟨#[50]⟩] from rfl) (Reps.one (show Kd.M Kd.string _ _ _ (⟨#[51]⟩ : ByteArray) [.string ⟨#[51]⟩] from rfl) (Reps.one (show Kd.M Kd.string _ _ _ (⟨#[53]⟩ : ByteArray) [.string ⟨#[53]⟩] from rfl) (Reps.one (show Kd.M Kd.string _ _ _ (⟨#[49, 50]⟩ : ByteArray) [.string ⟨#[49, 50]⟩] from rfl) (Reps.one (show Kd.M Kd.string _ _ _ (⟨#[49, 48, 48]⟩ : ByteArray) [.string ⟨#[49, 48, 48]⟩] from rfl) (Reps.one (show Kd.M Kd.string _ _ _ (⟨#[49, 48, 48, 48]⟩ : ByteArray) [.string ⟨#[49, 48, 48, 48]⟩] from rfl) (Reps.one (show Kd.M Kd.string _ _ _ (⟨#[49, 48, 48, 48, 48, 48, 48]⟩ : ByteArray) [.string ⟨#[49, 48, 48, 48, 48, 48, 48]⟩] from rfl) (Reps.none _ _))))))))))); intro v189 w18 ho19 hb hg_ hnew_; clear hg_ hnew_; (first | rw [← Ny188.out] at ho19 | (simp only [Int.reduceToNat] at ho19; rw [← Ny188.out] at ho19)); have HO190 := am_ (Kd.R_lower ho19 (keep_size (hk_ HK))); replace HK := hkb_ HK hb; replace HB := am_ (below_step (hbI_ HB (IsS48.ge HI0.out)) hb); replace HI0 := IsS48.b HI0 hb; clear hb ho19; obtain ⟨Ao20, co20, eo20⟩ := Kd.R_slice HO190.out; subst eo20) | ((with_reducible refine gk_ 31 ?_); refine gq_ 20 Tryz.func31 #[.pointer (some ⟨g, 0, none⟩), .slice Ao20 y188.length co20] ?_; (with_reducible refine (spec_l1Cur_of.calls g s0_0 t180 t181 _ _ y188 t191 t192 t193 w0 _ ?_ ?_ ?_ ?_ ?_ A16.out).mono ?_); exact IsS48.q HI0; exact hbI_ HB (IsS48.ge HI0.out); exact Kd.C_o HO190; exact (Kd.R_reads' HO190.out).2.1; exact far_slice (IsS48.own_ne HI0.out HO190.out (by decide)); rintro e w21 ⟨rfl, hi, hb, hk⟩; refine ⟨_, rfl, ?_⟩; replace HO190 := IsS48.rk HI0 HO190 hk; replace HK := kt_ HK hk; replace HB := am_ (hb); replace HI0 := am_ (hi)))
  go_ret
  exact ⟨se_, IsS48.q HI0, hbI_ HB (IsS48.ge HI0.out), hk_ HK⟩
 replace c7 := Bool.eq_false_iff.mpr c7
 subst c7
 rw [if_neg (show ¬ (false = true) by decide)] at H
 revert H; refine bn_ ?_; rintro ⟨t194, t195, t196⟩ A22 H; try dsimp only at H
 revert H; refine bn_ ?_; rintro ⟨t197, t198, t199⟩ A23 H; try dsimp only at H
 revert H; refine bn_ ?_; rintro ⟨t200, t201, t202⟩ A24 H; try dsimp only at H
 by_cases c25 : t200 = 0
 ·rw [if_pos c25] at H
  have c25b0 : (t200 == 0) = true := beq_iff_eq.mpr c25
  have c25b1 : (t200 != 0) = false := bne_eq_false_iff_eq.mpr c25
  clear c25
  revert H; refine pf_ fun c26 H => ?_
  have c26b0 := eq_true c26
  have c26b1 := decide_eq_true c26
  try have c26b2 : (9223372036854775807 < 3 + t194.size) = False := eq_false (Nat.not_lt.2 c26)
  obtain ⟨y203, hy203⟩ : ∃ y_ : List ByteArray, y_ = (([⟨#[32, 60, 32]⟩, ⟨#[32, 61, 32]⟩, ⟨#[32, 62, 32]⟩] : List ByteArray)) := ⟨_, rfl⟩
  (try with_reducible replace H := (Option.bind_some _ _).symm.trans H); (try dsimp only at H); (try rw [← hy203] at H)
  have Ny203 := am_ hy203
  clear hy203
  revert H; refine bn_ ?_; rintro ⟨t206, t207, t208⟩ A27 H; try dsimp only at H
  revert H; refine pf_ fun c28 H => ?_
  have c28b0 := eq_true c28
  have c28b1 := decide_eq_true c28
  try have c28b2 : (9223372036854775807 < ((⟨#[105, 102, 32]⟩ : ByteArray) ++ t194).size + t206.size) = False := eq_false (Nat.not_lt.2 c28)
  have c28b3 : (9223372036854775807 < 3 + t194.size + t206.size) = False := eq_false (Nat.not_lt.2 (by have h_ := c28; simp only [ByteArray.size_append] at h_; exact h_))
  revert H; refine pf_ fun c29 H => ?_
  have c29b0 := eq_true c29
  have c29b1 := decide_eq_true c29
  try have c29b2 : (9223372036854775807 < (((⟨#[105, 102, 32]⟩ : ByteArray) ++ t194) ++ t206).size + t197.size) = False := eq_false (Nat.not_lt.2 c29)
  have c29b3 : (9223372036854775807 < 3 + t194.size + t206.size + t197.size) = False := eq_false (Nat.not_lt.2 (by have h_ := c29; simp only [ByteArray.size_append] at h_; exact h_))
  revert H; refine pf_ fun c30 H => ?_
  have c30b0 := eq_true c30
  have c30b1 := decide_eq_true c30
  try have c30b2 : (9223372036854775807 < ((((⟨#[105, 102, 32]⟩ : ByteArray) ++ t194) ++ t206) ++ t197).size + 6) = False := eq_false (Nat.not_lt.2 c30)
  have c30b3 : (9223372036854775807 < 3 + t194.size + t206.size + t197.size + 6) = False := eq_false (Nat.not_lt.2 (by have h_ := c30; simp only [ByteArray.size_append] at h_; exact h_))
  revert H; refine bn_ ?_; rintro ⟨t209, t210, t211⟩ A31 H; try dsimp only at H
  revert H; refine pf_ fun c32 H => ?_
  have c32b0 := eq_true c32
  have c32b1 := decide_eq_true c32
  try have c32b2 : (9223372036854775807 < (((((⟨#[105, 102, 32]⟩ : ByteArray) ++ t194) ++ t206) ++ t197) ++ (⟨#[32, 116, 104, 101, 110, 32]⟩ : ByteArray)).size + t209.size) = False := eq_false (Nat.not_lt.2 c32)
  have c32b3 : (9223372036854775807 < 3 + t194.size + t206.size + t197.size + 6 + t209.size) = False := eq_false (Nat.not_lt.2 (by have h_ := c32; simp only [ByteArray.size_append] at h_; exact h_))
  revert H; refine pf_ fun c33 H => ?_
  have c33b0 := eq_true c33
  have c33b1 := decide_eq_true c33
  try have c33b2 : (9223372036854775807 < ((((((⟨#[105, 102, 32]⟩ : ByteArray) ++ t194) ++ t206) ++ t197) ++ (⟨#[32, 116, 104, 101, 110, 32]⟩ : ByteArray)) ++ t209).size + 6) = False := eq_false (Nat.not_lt.2 c33)
  have c33b3 : (9223372036854775807 < 3 + t194.size + t206.size + t197.size + 6 + t209.size + 6) = False := eq_false (Nat.not_lt.2 (by have h_ := c33; simp only [ByteArray.size_append] at h_; exact h_))
  revert H; refine bn_ ?_; rintro ⟨t212, t213, t214⟩ A34 H; try dsimp only at H
  revert H; refine pf_ fun c35 H => ?_
  have c35b0 := eq_true c35
  have c35b1 := decide_eq_true c35
  try have c35b2 : (9223372036854775807 < (((((((⟨#[105, 102, 32]⟩ : ByteArray) ++ t194) ++ t206) ++ t197) ++ (⟨#[32, 116, 104, 101, 110, 32]⟩ : ByteArray)) ++ t209) ++ (⟨#[32, 101, 108, 115, 101, 32]⟩ : ByteArray)).size + t212.size) = False := eq_false (Nat.not_lt.2 c35)
  have c35b3 : (9223372036854775807 < 3 + t194.size + t206.size + t197.size + 6 + t209.size + 6 + t212.size) = False := eq_false (Nat.not_lt.2 (by have h_ := c35; simp only [ByteArray.size_append] at h_; exact h_))
  simp only [Option.some.injEq, Prod.mk.injEq] at H
  obtain ⟨rfl, rfl, rfl⟩ := H
  go_wp2_with (first | ((with_reducible refine gk_ 28 ?_); refine gq_ 24 Tryz.func28 #[.pointer (some ⟨g, 0, none⟩), .int .i64 (wrap64 (a1 - 1))] ?_; (with_reducible refine (ih kj2 (by have := HJ2.out; omega) g s0_0 x1001_2 x1002_2 (wrap64 (a1 - 1)) t194 t195 t196 w0 _ ?_ ?_ A22.out).mono ?_); exact IsS48.q HI0; exact hbI_ HB (IsS48.ge HI0.out); rintro e w36 ⟨rfl, hi, hb, hk⟩; refine ⟨_, rfl, ?_⟩; replace HK := kt_ HK hk; replace HB := am_ (hb); replace HI0 := am_ (hi)) | ((with_reducible refine gk_ 28 ?_); refine gq_ 28 Tryz.func28 #[.pointer (some ⟨g, 0, none⟩), .int .i64 (wrap64 (a1 - 1))] ?_; (with_reducible refine (ih kj2 (by have := HJ2.out; omega) g s0_0 t195 t196 (wrap64 (a1 - 1)) t197 t198 t199 w0 _ ?_ ?_ A23.out).mono ?_); exact IsS48.q HI0; exact hbI_ HB (IsS48.ge HI0.out); rintro e w37 ⟨rfl, hi, hb, hk⟩; refine ⟨_, rfl, ?_⟩; replace HK := kt_ HK hk; replace HB := am_ (hb); replace HI0 := am_ (hi)) | ((with_reducible refine gk_ 29 ?_); refine gq_ 30 Tryz.func29 #[.pointer (some ⟨g, 0, none⟩), .int .i64 7] ?_; (with_reducible refine (spec_l1Cur_pick.calls g s0_0 t198 t199 7 t200 t201 t202 w0 _ ?_ ?_ A24.out).mono ?_); exact IsS48.q HI0; exact hbI_ HB (IsS48.ge HI0.out); rintro e w38 ⟨rfl, hi, hb, hk⟩; refine ⟨_, rfl, ?_⟩; replace HK := kt_ HK hk; replace HB := am_ (hb); replace HI0 := am_ (hi)) | ((with_reducible refine gate_dst (N := 36) rfl ?_); refine Kd.R_lit Kd.string _ 9 ?hg (N := 36) ?hd (xs := ([⟨#[32, 60, 32]⟩, ⟨#[32, 61, 32]⟩, ⟨#[32, 62, 32]⟩] : List ByteArray)) (inner := [.string ⟨#[32, 60, 32]⟩, .string ⟨#[32, 61, 32]⟩, .string ⟨#[32, 62, 32]⟩]) (ok := fun _ => True) (okp := fun _ => True) ?hr ?hp (fun _ hk => hk) trivial (Below.refl _ _) (Nat.le_refl _) (by simp) ?_; (case hd => rfl); (case hg => rfl); (case hr => first | (go_simp; done) | (go_simp; rfl)); (case hp => exact (Reps.one (show Kd.M Kd.string _ _ _ (⟨#[32, 60, 32]⟩ : ByteArray) [.string ⟨#[32, 60, 32]⟩] from rfl) (Reps.one (show Kd.M Kd.string _ _ _ (⟨#[32, 61, 32]⟩ : ByteArray) [.string ⟨#[32, 61, 32]⟩] from rfl) (Reps.one (show Kd.M Kd.string _ _ _ (⟨#[32, 62, 32]⟩ : ByteArray) [.string ⟨#[32, 62, 32]⟩] from rfl) (Reps.none _ _))))); intro v204 w39 ho40 hb hg_ hnew_; clear hg_ hnew_; (first | rw [← Ny203.out] at ho40 | (simp only [Int.reduceToNat] at ho40; rw [← Ny203.out] at ho40)); have HO205 := am_ (Kd.R_lower ho40 (keep_size (hk_ HK))); replace HK := hkb_ HK hb; replace HB := am_ (below_step (hbI_ HB (IsS48.ge HI0.out)) hb); replace HI0 := IsS48.b HI0 hb; clear hb ho40; obtain ⟨Ao41, co41, eo41⟩ := Kd.R_slice HO205.out; subst eo41) | ((with_reducible refine gk_ 31 ?_); refine gq_ 37 Tryz.func31 #[.pointer (some ⟨g, 0, none⟩), .slice Ao41 y203.length co41] ?_; (with_reducible refine (spec_l1Cur_of.calls g s0_0 t201 t202 _ _ y203 t206 t207 t208 w0 _ ?_ ?_ ?_ ?_ ?_ A27.out).mono ?_); exact IsS48.q HI0; exact hbI_ HB (IsS48.ge HI0.out); exact Kd.C_o HO205; exact (Kd.R_reads' HO205.out).2.1; exact far_slice (IsS48.own_ne HI0.out HO205.out (by decide)); rintro e w42 ⟨rfl, hi, hb, hk⟩; refine ⟨_, rfl, ?_⟩; replace HO205 := IsS48.rk HI0 HO205 hk; replace HK := kt_ HK hk; replace HB := am_ (hb); replace HI0 := am_ (hi); try clear HO205) | ((with_reducible refine gk_ 28 ?_); refine gq_ 45 Tryz.func28 #[.pointer (some ⟨g, 0, none⟩), .int .i64 (wrap64 (a1 - 1))] ?_; (with_reducible refine (ih kj2 (by have := HJ2.out; omega) g s0_0 t207 t208 (wrap64 (a1 - 1)) t209 t210 t211 w0 _ ?_ ?_ A31.out).mono ?_); exact IsS48.q HI0; exact hbI_ HB (IsS48.ge HI0.out); rintro e w43 ⟨rfl, hi, hb, hk⟩; refine ⟨_, rfl, ?_⟩; replace HK := kt_ HK hk; replace HB := am_ (hb); replace HI0 := am_ (hi)) | ((with_reducible refine gk_ 28 ?_); refine gq_ 51 Tryz.func28 #[.pointer (some ⟨g, 0, none⟩), .int .i64 (wrap64 (a1 - 1))] ?_; (with_reducible refine (ih kj2 (by have := HJ2.out; omega) g s0_0 t210 t211 (wrap64 (a1 - 1)) t212 t213 t214 w0 _ ?_ ?_ A34.out).mono ?_); exact IsS48.q HI0; exact hbI_ HB (IsS48.ge HI0.out); rintro e w44 ⟨rfl, hi, hb, hk⟩; refine ⟨_, rfl, ?_⟩; replace HK := kt_ HK hk; replace HB := am_ (hb); replace HI0 := am_ (hi)))
  go_ret
  exact ⟨se_, IsS48.q HI0, hbI_ HB (IsS48.ge HI0.out), hk_ HK⟩
 rw [if_neg c25] at H
 have c25b0 : (t200 == 0) = false := beq_eq_false_iff_ne.mpr c25
 have c25b1 : (t200 != 0) = true := bne_iff_ne.mpr c25
 by_cases c45 : t200 = 1
 ·rw [if_pos c45] at H
  have c45b0 : (t200 == 1) = true := beq_iff_eq.mpr c45
  have c45b1 : (t200 != 1) = false := bne_eq_false_iff_eq.mpr c45
  clear c45
  revert H; refine pf_ fun c46 H => ?_
  have c46b0 := eq_true c46
  have c46b1 := decide_eq_true c46
  try have c46b2 : (9223372036854775807 < 2 + t194.size) = False := eq_false (Nat.not_lt.2 c46)
  revert H; refine pf_ fun c47 H => ?_
  have c47b0 := eq_true c47
  have c47b1 := decide_eq_true c47
  try have c47b2 : (9223372036854775807 < ((⟨#[40, 32]⟩ : ByteArray) ++ t194).size + 2) = False := eq_false (Nat.not_lt.2 c47)
  have c47b3 : (9223372036854775807 < 2 + t194.size + 2) = False := eq_false (Nat.not_lt.2 (by have h_ := c47; simp only [ByteArray.size_append] at h_; exact h_))
  simp only [Option.some.injEq, Prod.mk.injEq] at H
  obtain ⟨rfl, rfl, rfl⟩ := H
  go_wp2_with (first | ((with_reducible refine gk_ 28 ?_); refine gq_ 24 Tryz.func28 #[.pointer (some ⟨g, 0, none⟩), .int .i64 (wrap64 (a1 - 1))] ?_; (with_reducible refine (ih kj2 (by have := HJ2.out; omega) g s0_0 x1001_2 x1002_2 (wrap64 (a1 - 1)) t194 t195 t196 w0 _ ?_ ?_ A22.out).mono ?_); exact IsS48.q HI0; exact hbI_ HB (IsS48.ge HI0.out); rintro e w48 ⟨rfl, hi, hb, hk⟩; refine ⟨_, rfl, ?_⟩; replace HK := kt_ HK hk; replace HB := am_ (hb); replace HI0 := am_ (hi)) | ((with_reducible refine gk_ 28 ?_); refine gq_ 28 Tryz.func28 #[.pointer (some ⟨g, 0, none⟩), .int .i64 (wrap64 (a1 - 1))] ?_; (with_reducible refine (ih kj2 (by have := HJ2.out; omega) g s0_0 t195 t196 (wrap64 (a1 - 1)) t197 t198 t199 w0 _ ?_ ?_ A23.out).mono ?_); exact IsS48.q HI0; exact hbI_ HB (IsS48.ge HI0.out); rintro e w49 ⟨rfl, hi, hb, hk⟩; refine ⟨_, rfl, ?_⟩; replace HK := kt_ HK hk; replace HB := am_ (hb); replace HI0 := am_ (hi)) | ((with_reducible refine gk_ 29 ?_); refine gq_ 30 Tryz.func29 #[.pointer (some ⟨g, 0, none⟩), .int .i64 7] ?_; (with_reducible refine (spec_l1Cur_pick.calls g s0_0 t198 t199 7 t200 t201 t202 w0 _ ?_ ?_ A24.out).mono ?_); exact IsS48.q HI0; exact hbI_ HB (IsS48.ge HI0.out); rintro e w50 ⟨rfl, hi, hb, hk⟩; refine ⟨_, rfl, ?_⟩; replace HK := kt_ HK hk; replace HB := am_ (hb); replace HI0 := am_ (hi)))
  go_ret
  exact ⟨se_, IsS48.q HI0, hbI_ HB (IsS48.ge HI0.out), hk_ HK⟩
 rw [if_neg c45] at H
 have c45b0 : (t200 == 1) = false := beq_eq_false_iff_ne.mpr c45
 have c45b1 : (t200 != 1) = true := bne_iff_ne.mpr c45
 by_cases c51 : t200 = 2
 ·rw [if_pos c51] at H
  have c51b0 : (t200 == 2) = true := beq_iff_eq.mpr c51
  have c51b1 : (t200 != 2) = false := bne_eq_false_iff_eq.mpr c51
  clear c51
  revert H; refine pf_ fun c52 H => ?_
  have c52b0 := eq_true c52
  have c52b1 := decide_eq_true c52
  try have c52b2 : (9223372036854775807 < 2 + t194.size) = False := eq_false (Nat.not_lt.2 c52)
  revert H; refine pf_ fun c53 H => ?_
  have c53b0 := eq_true c53
  have c53b1 := decide_eq_true c53
  try have c53b2 : (9223372036854775807 < ((⟨#[40, 32]⟩ : ByteArray) ++ t194).size + 3) = False := eq_false (Nat.not_lt.2 c53)
  have c53b3 : (9223372036854775807 < 2 + t194.size + 3) = False := eq_false (Nat.not_lt.2 (by have h_ := c53; simp only [ByteArray.size_append] at h_; exact h_))
  obtain ⟨y215, hy215⟩ : ∃ y_ : List ByteArray, y_ = (([⟨#[42]⟩, ⟨#[47]⟩, ⟨#[45]⟩] : List ByteArray)) := ⟨_, rfl⟩
  (try with_reducible replace H := (Option.bind_some _ _).symm.trans H); (try dsimp only at H); (try rw [← hy215] at H)
  have Ny215 := am_ hy215
  clear hy215
  revert H; refine bn_ ?_; rintro ⟨t218, t219, t220⟩ A54 H; try dsimp only at H
  revert H; refine pf_ fun c55 H => ?_
  have c55b0 := eq_true c55
  have c55b1 := decide_eq_true c55
  try have c55b2 : (9223372036854775807 < (((⟨#[40, 32]⟩ : ByteArray) ++ t194) ++ (⟨#[32, 41, 32]⟩ : ByteArray)).size + t218.size) = False := eq_false (Nat.not_lt.2 c55)
  have c55b3 : (9223372036854775807 < 2 + t194.size + 3 + t218.size) = False := eq_false (Nat.not_lt.2 (by have h_ := c55; simp only [ByteArray.size_append] at h_; exact h_))
  revert H; refine pf_ fun c56 H => ?_
  have c56b0 := eq_true c56
  have c56b1 := decide_eq_true c56
  try have c56b2 : (9223372036854775807 < ((((⟨#[40, 32]⟩ : ByteArray) ++ t194) ++ (⟨#[32, 41, 32]⟩ : ByteArray)) ++ t218).size + 3) = False := eq_false (Nat.not_lt.2 c56)
  have c56b3 : (9223372036854775807 < 2 + t194.size + 3 + t218.size + 3) = False := eq_false (Nat.not_lt.2 (by have h_ := c56; simp only [ByteArray.size_append] at h_; exact h_))
  revert H; refine pf_ fun c57 H => ?_
  have c57b0 := eq_true c57
  have c57b1 := decide_eq_true c57
  try have c57b2 : (9223372036854775807 < (((((⟨#[40, 32]⟩ : ByteArray) ++ t194) ++ (⟨#[32, 41, 32]⟩ : ByteArray)) ++ t218) ++ (⟨#[32, 40, 32]⟩ : ByteArray)).size + t197.size) = False := eq_false (Nat.not_lt.2 c57)
  have c57b3 : (9223372036854775807 < 2 + t194.size + 3 + t218.size + 3 + t197.size) = False := eq_false (Nat.not_lt.2 (by have h_ := c57; simp only [ByteArray.size_append] at h_; exact h_))
  revert H; refine pf_ fun c58 H => ?_
  have c58b0 := eq_true c58
  have c58b1 := decide_eq_true c58
  try have c58b2 : (9223372036854775807 < ((((((⟨#[40, 32]⟩ : ByteArray) ++ t194) ++ (⟨#[32, 41, 32]⟩ : ByteArray)) ++ t218) ++ (⟨#[32, 40, 32]⟩ : ByteArray)) ++ t197).size + 2) = False := eq_false (Nat.not_lt.2 c58)
  have c58b3 : (9223372036854775807 < 2 + t194.size + 3 + t218.size + 3 + t197.size + 2) = False := eq_false (Nat.not_lt.2 (by have h_ := c58; simp only [ByteArray.size_append] at h_; exact h_))
  simp only [Option.some.injEq, Prod.mk.injEq] at H
  obtain ⟨rfl, rfl, rfl⟩ := H
  go_wp2_with (first | ((with_reducible refine gk_ 28 ?_); refine gq_ 24 Tryz.func28 #[.pointer (some ⟨g, 0, none⟩), .int .i64 (wrap64 (a1 - 1))] ?_; (with_reducible refine (ih kj2 (by have := HJ2.out; omega) g s0_0 x1001_2 x1002_2 (wrap64 (a1 - 1)) t194 t195 t196 w0 _ ?_ ?_ A22.out).mono ?_); exact IsS48.q HI0; exact hbI_ HB (IsS48.ge HI0.out); rintro e w59 ⟨rfl, hi, hb, hk⟩; refine ⟨_, rfl, ?_⟩; replace HK := kt_ HK hk; replace HB := am_ (hb); replace HI0 := am_ (hi)) | ((with_reducible refine gk_ 28 ?_); refine gq_ 28 Tryz.func28 #[.pointer (some ⟨g, 0, none⟩), .int .i64 (wrap64 (a1 - 1))] ?_; (with_reducible refine (ih kj2 (by have := HJ2.out; omega) g s0_0 t195 t196 (wrap64 (a1 - 1)) t197 t198 t199 w0 _ ?_ ?_ A23.out).mono ?_); exact IsS48.q HI0; exact hbI_ HB (IsS48.ge HI0.out); rintro e w60 ⟨rfl, hi, hb, hk⟩; refine ⟨_, rfl, ?_⟩; replace HK := kt_ HK hk; replace HB := am_ (hb); replace HI0 := am_ (hi)) | ((with_reducible refine gk_ 29 ?_); refine gq_ 30 Tryz.func29 #[.pointer (some ⟨g, 0, none⟩), .int .i64 7] ?_; (with_reducible refine (spec_l1Cur_pick.calls g s0_0 t198 t199 7 t200 t201 t202 w0 _ ?_ ?_ A24.out).mono ?_); exact IsS48.q HI0; exact hbI_ HB (IsS48.ge HI0.out); rintro e w61 ⟨rfl, hi, hb, hk⟩; refine ⟨_, rfl, ?_⟩; replace HK := kt_ HK hk; replace HB := am_ (hb); replace HI0 := am_ (hi)) | ((with_reducible refine gate_dst (N := 64) rfl ?_); refine Kd.R_lit Kd.string _ 9 ?hg (N := 64) ?hd (xs := ([⟨#[42]⟩, ⟨#[47]⟩, ⟨#[45]⟩] : List ByteArray)) (inner := [.string ⟨#[42]⟩, .string ⟨#[47]⟩, .string ⟨#[45]⟩]) (ok := fun _ => True) (okp := fun _ => True) ?hr ?hp (fun _ hk => hk) trivial (Below.refl _ _) (Nat.le_refl _) (by simp) ?_; (case hd => rfl); (case hg => rfl); (case hr => first | (go_simp; done) | (go_simp; rfl)); (case hp => exact (Reps.one (show Kd.M Kd.string _ _ _ (⟨#[42]⟩ : ByteArray) [.string ⟨#[42]⟩] from rfl) (Reps.one (show Kd.M Kd.string _ _ _ (⟨#[47]⟩ : ByteArray) [.string ⟨#[47]⟩] from rfl) (Reps.one (show Kd.M Kd.string _ _ _ (⟨#[45]⟩ : ByteArray) [.string ⟨#[45]⟩] from rfl) (Reps.none _ _))))); intro v216 w62 ho63 hb hg_ hnew_; clear hg_ hnew_; (first | rw [← Ny215.out] at ho63 | (simp only [Int.reduceToNat] at ho63; rw [← Ny215.out] at ho63)); have HO217 := am_ (Kd.R_lower ho63 (keep_size (hk_ HK))); replace HK := hkb_ HK hb; replace HB := am_ (below_step (hbI_ HB (IsS48.ge HI0.out)) hb); replace HI0 := IsS48.b HI0 hb; clear hb ho63; obtain ⟨Ao64, co64, eo64⟩ := Kd.R_slice HO217.out; subst eo64) | ((with_reducible refine gk_ 31 ?_); refine gq_ 65 Tryz.func31 #[.pointer (some ⟨g, 0, none⟩), .slice Ao64 y215.length co64] ?_; (with_reducible refine (spec_l1Cur_of.calls g s0_0 t201 t202 _ _ y215 t218 t219 t220 w0 _ ?_ ?_ ?_ ?_ ?_ A54.out).mono ?_); exact IsS48.q HI0; exact hbI_ HB (IsS48.ge HI0.out); exact Kd.C_o HO217; exact (Kd.R_reads' HO217.out).2.1; exact far_slice (IsS48.own_ne HI0.out HO217.out (by decide)); rintro e w65 ⟨rfl, hi, hb, hk⟩; refine ⟨_, rfl, ?_⟩; replace HO217 := IsS48.rk HI0 HO217 hk; replace HK := kt_ HK hk; replace HB := am_ (hb); replace HI0 := am_ (hi)))
  go_ret
  exact ⟨se_, IsS48.q HI0, hbI_ HB (IsS48.ge HI0.out), hk_ HK⟩
 rw [if_neg c51] at H
 have c51b0 : (t200 == 2) = false := beq_eq_false_iff_ne.mpr c51
 have c51b1 : (t200 != 2) = true := bne_iff_ne.mpr c51
 revert H; refine pf_ fun c66 H => ?_
 have c66b0 := eq_true c66
 have c66b1 := decide_eq_true c66
 try have c66b2 : (9223372036854775807 < t194.size + 1) = False := eq_false (Nat.not_lt.2 c66)
 obtain ⟨y221, hy221⟩ : ∃ y_ : List ByteArray, y_ = (([⟨#[43]⟩, ⟨#[45]⟩, ⟨#[42]⟩, ⟨#[47]⟩] : List ByteArray)) := ⟨_, rfl⟩
 (try with_reducible replace H := (Option.bind_some _ _).symm.trans H); (try dsimp only at H); (try rw [← hy221] at H)
 have Ny221 := am_ hy221
 clear hy221
 revert H; refine bn_ ?_; rintro ⟨t224, t225, t226⟩ A67 H; try dsimp only at H
 revert H; refine pf_ fun c68 H => ?_
 have c68b0 := eq_true c68
 have c68b1 := decide_eq_true c68
 try have c68b2 : (9223372036854775807 < (t194 ++ (⟨#[32]⟩ : ByteArray)).size + t224.size) = False := eq_false (Nat.not_lt.2 c68)
 have c68b3 : (9223372036854775807 < t194.size + 1 + t224.size) = False := eq_false (Nat.not_lt.2 (by have h_ := c68; simp only [ByteArray.size_append] at h_; exact h_))
 revert H; refine pf_ fun c69 H => ?_
 have c69b0 := eq_true c69
 have c69b1 := decide_eq_true c69
 try have c69b2 : (9223372036854775807 < ((t194 ++ (⟨#[32]⟩ : ByteArray)) ++ t224).size + 1) = False := eq_false (Nat.not_lt.2 c69)
 have c69b3 : (9223372036854775807 < t194.size + 1 + t224.size + 1) = False := eq_false (Nat.not_lt.2 (by have h_ := c69; simp only [ByteArray.size_append] at h_; exact h_))
 revert H; refine pf_ fun c70 H => ?_
 have c70b0 := eq_true c70
 have c70b1 := decide_eq_true c70
 try have c70b2 : (9223372036854775807 < (((t194 ++ (⟨#[32]⟩ : ByteArray)) ++ t224) ++ (⟨#[32]⟩ : ByteArray)).size + t197.size) = False := eq_false (Nat.not_lt.2 c70)
 have c70b3 : (9223372036854775807 < t194.size + 1 + t224.size + 1 + t197.size) = False := eq_false (Nat.not_lt.2 (by have h_ := c70; simp only [ByteArray.size_append] at h_; exact h_))
 simp only [Option.some.injEq, Prod.mk.injEq] at H
 obtain ⟨rfl, rfl, rfl⟩ := H
 go_wp2_with (first | ((with_reducible refine gk_ 28 ?_); refine gq_ 24 Tryz.func28 #[.pointer (some ⟨g, 0, none⟩), .int .i64 (wrap64 (a1 - 1))] ?_; (with_reducible refine (ih kj2 (by have := HJ2.out; omega) g s0_0 x1001_2 x1002_2 (wrap64 (a1 - 1)) t194 t195 t196 w0 _ ?_ ?_ A22.out).mono ?_); exact IsS48.q HI0; exact hbI_ HB (IsS48.ge HI0.out); rintro e w71 ⟨rfl, hi, hb, hk⟩; refine ⟨_, rfl, ?_⟩; replace HK := kt_ HK hk; replace HB := am_ (hb); replace HI0 := am_ (hi)) | ((with_reducible refine gk_ 28 ?_); refine gq_ 28 Tryz.func28 #[.pointer (some ⟨g, 0, none⟩), .int .i64 (wrap64 (a1 - 1))] ?_; (with_reducible refine (ih kj2 (by have := HJ2.out; omega) g s0_0 t195 t196 (wrap64 (a1 - 1)) t197 t198 t199 w0 _ ?_ ?_ A23.out).mono ?_); exact IsS48.q HI0; exact hbI_ HB (IsS48.ge HI0.out); rintro e w72 ⟨rfl, hi, hb, hk⟩; refine ⟨_, rfl, ?_⟩; replace HK := kt_ HK hk; replace HB := am_ (hb); replace HI0 := am_ (hi)) | ((with_reducible refine gk_ 29 ?_); refine gq_ 30 Tryz.func29 #[.pointer (some ⟨g, 0, none⟩), .int .i64 7] ?_; (with_reducible refine (spec_l1Cur_pick.calls g s0_0 t198 t199 7 t200 t201 t202 w0 _ ?_ ?_ A24.out).mono ?_); exact IsS48.q HI0; exact hbI_ HB (IsS48.ge HI0.out); rintro e w73 ⟨rfl, hi, hb, hk⟩; refine ⟨_, rfl, ?_⟩; replace HK := kt_ HK hk; replace HB := am_ (hb); replace HI0 := am_ (hi)) | ((with_reducible refine gate_dst (N := 74) rfl ?_); refine Kd.R_lit Kd.string _ 9 ?hg (N := 74) ?hd (xs := ([⟨#[43]⟩, ⟨#[45]⟩, ⟨#[42]⟩, ⟨#[47]⟩] : List ByteArray)) (inner := [.string ⟨#[43]⟩, .string ⟨#[45]⟩, .string ⟨#[42]⟩, .string ⟨#[47]⟩]) (ok := fun _ => True) (okp := fun _ => True) ?hr ?hp (fun _ hk => hk) trivial (Below.refl _ _) (Nat.le_refl _) (by simp) ?_; (case hd => rfl); (case hg => rfl); (case hr => first | (go_simp; done) | (go_simp; rfl)); (case hp => exact (Reps.one (show Kd.M Kd.string _ _ _ (⟨#[43]⟩ : ByteArray) [.string ⟨#[43]⟩] from rfl) (Reps.one (show Kd.M Kd.string _ _ _ (⟨#[45]⟩ : ByteArray) [.string ⟨#[45]⟩] from rfl) (Reps.one (show Kd.M Kd.string _ _ _ (⟨#[42]⟩ : ByteArray) [.string ⟨#[42]⟩] from rfl) (Reps.one (show Kd.M Kd.string _ _ _ (⟨#[47]⟩ : ByteArray) [.string ⟨#[47]⟩] from rfl) (Reps.none _ _)))))); intro v222 w74 ho75 hb hg_ hnew_; clear hg_ hnew_; (first | rw [← Ny221.out] at ho75 | (simp only [Int.reduceToNat] at ho75; rw [← Ny221.out] at ho75)); have HO223 := am_ (Kd.R_lower ho75 (keep_size (hk_ HK))); replace HK := hkb_ HK hb; replace HB := am_ (below_step (hbI_ HB (IsS48.ge HI0.out)) hb); replace HI0 := IsS48.b HI0 hb; clear hb ho75; obtain ⟨Ao76, co76, eo76⟩ := Kd.R_slice HO223.out; subst eo76) | ((with_reducible refine gk_ 31 ?_); refine gq_ 75 Tryz.func31 #[.pointer (some ⟨g, 0, none⟩), .slice Ao76 y221.length co76] ?_; (with_reducible refine (spec_l1Cur_of.calls g s0_0 t201 t202 _ _ y221 t224 t225 t226 w0 _ ?_ ?_ ?_ ?_ ?_ A67.out).mono ?_); exact IsS48.q HI0; exact hbI_ HB (IsS48.ge HI0.out); exact Kd.C_o HO223; exact (Kd.R_reads' HO223.out).2.1; exact far_slice (IsS48.own_ne HI0.out HO223.out (by decide)); rintro e w77 ⟨rfl, hi, hb, hk⟩; refine ⟨_, rfl, ?_⟩; replace HO223 := IsS48.rk HI0 HO223 hk; replace HK := kt_ HK hk; replace HB := am_ (hb); replace HI0 := am_ (hi)))
 go_ret
 exact ⟨se_, IsS48.q HI0, hbI_ HB (IsS48.ge HI0.out), hk_ HK⟩

/-! ### spec_l1Cur_rule: function 57 -/
def spec_l1Cur_rule.l0 : Nat → Int → List Int → Int → Int → Option ((List (S73)) × Int × Int)
 | 0, _, _, _, _ => none
 | k + 1, x3, x1000, x1001, x1002 => if x3 < 4 then ((spec_l1Cur_wording.f k x1000 x1001 x1002 (wrap64 (3 - (wrap64 (Int.tdiv x3 2))))).bind fun bt233 => ((spec_ParseRule.f k bt233.1).bind fun bt236 => (if bt236.2 = true then (some (bt236.1, bt233.2.1, bt233.2.2)) else (spec_l1Cur_rule.l0 k (wrap64 (x3 + 1)) x1000 bt233.2.1 bt233.2.2)))) else ((spec_l1Cur_pick.f x1000 x1001 x1002 5).bind fun bt227 => (some ((([(⟨1, bt227.1⟩ : S73)] : List (S73))), bt227.2.1, bt227.2.2)))
def spec_l1Cur_rule.f (k : Nat) (s0_0 : List Int) (s0_1 : Int) (s0_2 : Int) : Option ((List (S73)) × Int × Int) := spec_l1Cur_rule.l0 k 0 s0_0 s0_1 s0_2
theorem spec_l1Cur_rule.calls (k : Nat) (g : Nat) (s0_0 : List Int) (s0_1 : Int) (s0_2 : Int) (r1 : List (S73)) (r2 : Int) (r3 : Int) (w0 w : World) (hI : IsS48 w0 w g s0_0 s0_1 s0_2) (hB : Below w0.heap.size w0 w) (h : spec_l1Cur_rule.f k s0_0 s0_1 s0_2 = some (r1, r2, r3)) :
  Calls Tryz.prog 57 #[.pointer (some ⟨g, 0, none⟩)] w fun e w' => ∃ v0_ : Value, e = .returned (v0_) ∧ Kd.R k73 73 w' w.heap.size (fun _ => True) v0_ r1 ∧ IsS48 w0 w' g s0_0 r2 r3 ∧ Below w0.heap.size w0 w' ∧ KeepBut w w' g none := by
 have hu73 := Tryz.underlying73
 have HI0 := am_ hI
 have HK := am_ (KeepBut.refl w g none)
 have HL := am_ hB.size
 clear hI
 have HW0 := am_ hB.size
 have HB := am_ hB
 clear hB
 have H := h
 unfold spec_l1Cur_rule.f at H
 clear h
 have H' := am_ H
 clear H
 go_enter Tryz.func57, Tryz.ntmps57
 go_wp2
 go_loopg [3] k (fun kq v3 w' => ∃ (x3_1 : Int) (x1001_1 : Int) (x1002_1 : Int), v3 = .int .i64 x3_1 ∧ Aside0 (spec_l1Cur_rule.l0 kq x3_1 s0_0 x1001_1 x1002_1 = some (r1, r2, r3)) ∧ Aside0 (kq ≤ k) ∧ Aside0 (IsS48 w0 w' g s0_0 x1001_1 x1002_1) ∧ Aside0 (KeepBut w w' g none) ∧ Aside0 (Below w0.heap.size w0 w'))
 case atStart => exact ⟨(0), (s0_1), (s0_2), sr_, H', ⟨Nat.le_refl _⟩, ⟨IsS48.q HI0⟩, ⟨hk_ HK⟩, ⟨hbI_ HB (IsS48.ge HI0.out)⟩⟩
 clear H'
 obtain ⟨x3_1, x1001_1, x1002_1, rfl, HA, HK1, HI0, HK, HB⟩ := hrel
 cases gk with
 | zero => exact absurd HA.out (by simp [spec_l1Cur_rule.l0])
 | succ k1 => ?_
 have H := HA.out
 clear HA
 simp only [spec_l1Cur_rule.l0] at H
 by_cases c2 : x3_1 < 4
 ·rw [if_pos c2] at H
  have c2b0 := decide_eq_true c2
  clear c2
  revert H; refine bn_ ?_; rintro ⟨t233, t234, t235⟩ A3 H; try dsimp only at H
  revert H; refine bn_ ?_; rintro ⟨t236, t237⟩ A4 H; try dsimp only at H
  by_cases c5 : t237 = true
  ·subst c5
   rw [if_pos rfl] at H
   simp only [Option.some.injEq, Prod.mk.injEq] at H
   obtain ⟨rfl, rfl, rfl⟩ := H
   go_wp2_with (first | ((with_reducible refine gk_ 28 ?_); refine gq_ 15 Tryz.func28 #[.pointer (some ⟨g, 0, none⟩), .int .i64 (wrap64 (3 - (wrap64 (Int.tdiv x3_1 2))))] ?_; (with_reducible refine (spec_l1Cur_wording.calls k1 g s0_0 x1001_1 x1002_1 (wrap64 (3 - (wrap64 (Int.tdiv x3_1 2)))) t233 t234 t235 w0 _ ?_ ?_ A3.out).mono ?_); exact IsS48.q HI0; exact hbI_ HB (IsS48.ge HI0.out); rintro e w6 ⟨rfl, hi, hb, hk⟩; refine ⟨_, rfl, ?_⟩; replace HK := kt_ HK hk; replace HB := am_ (hb); replace HI0 := am_ (hi)) | ((with_reducible refine gk_ 9 ?_); refine gq_ 16 Tryz.func9 #[.string t233] ?_; (with_reducible refine (spec_ParseRule.calls k1 t233 t236 true _ A4.out).mono ?_); rintro e w7 ⟨v238, rfl, ho0, hb⟩; refine ⟨_, rfl, ?_⟩; have HO239 := am_ (Kd.R_lower ho0 (keep_size (hk_ HK))); replace HK := hkb_ HK hb; replace HB := am_ (below_step (hbI_ HB (IsS48.ge HI0.out)) hb); replace HI0 := IsS48.b HI0 hb))
   go_ret
   exact ⟨_, se_, Kd.R_p HO239, IsS48.q HI0, hbI_ HB (IsS48.ge HI0.out), hk_ HK⟩
  replace c5 := Bool.eq_false_iff.mpr c5
  subst c5
  rw [if_neg (show ¬ (false = true) by decide)] at H
  have H' := am_ H
  clear H
  go_wp2_with (first | ((with_reducible refine gk_ 28 ?_); refine gq_ 15 Tryz.func28 #[.pointer (some ⟨g, 0, none⟩), .int .i64 (wrap64 (3 - (wrap64 (Int.tdiv x3_1 2))))] ?_; (with_reducible refine (spec_l1Cur_wording.calls k1 g s0_0 x1001_1 x1002_1 (wrap64 (3 - (wrap64 (Int.tdiv x3_1 2)))) t233 t234 t235 w0 _ ?_ ?_ A3.out).mono ?_); exact IsS48.q HI0; exact hbI_ HB (IsS48.ge HI0.out); rintro e w8 ⟨rfl, hi, hb, hk⟩; refine ⟨_, rfl, ?_⟩; replace HK := kt_ HK hk; replace HB := am_ (hb); replace HI0 := am_ (hi)) | ((with_reducible refine gk_ 9 ?_); refine gq_ 16 Tryz.func9 #[.string t233] ?_; (with_reducible refine (spec_ParseRule.calls k1 t233 t236 false _ A4.out).mono ?_); rintro e w9 ⟨v238, rfl, ho0, hb⟩; refine ⟨_, rfl, ?_⟩; have HO239 := am_ (Kd.R_lower ho0 (keep_size (hk_ HK))); replace HK := hkb_ HK hb; replace HB := am_ (below_step (hbI_ HB (IsS48.ge HI0.out)) hb); replace HI0 := IsS48.b HI0 hb))
  go_roundg k1
  case measure => have := HK1.out; omega
  case rel => exact ⟨(wrap64 (x3_1 + 1)), (t234), (t235), sr_, H', ⟨by have := HK1.out; omega⟩, ⟨IsS48.q HI0⟩, ⟨hk_ HK⟩, ⟨hbI_ HB (IsS48.ge HI0.out)⟩⟩
 rw [if_neg c2] at H
 have c2b0 := decide_eq_false c2
 clear c2
 revert H; refine bn_ ?_; rintro ⟨t227, t228, t229⟩ A10 H; try dsimp only at H
 obtain ⟨y230, hy230⟩ : ∃ y_ : List (S73), y_ = (([(⟨1, t227⟩ : S73)] : List (S73))) := ⟨_, rfl⟩
 (try with_reducible replace H := (Option.bind_some _ _).symm.trans H); (try dsimp only at H); (try rw [← hy230] at H)
 have Ny230 := am_ hy230
 clear hy230
 simp only [Option.some.injEq, Prod.mk.injEq] at H
 obtain ⟨rfl, rfl, rfl⟩ := H
 go_wp2_with (first | ((with_reducible refine gk_ 29 ?_); refine gq_ 22 Tryz.func29 #[.pointer (some ⟨g, 0, none⟩), .int .i64 5] ?_; (with_reducible refine (spec_l1Cur_pick.calls g s0_0 x1001_1 x1002_1 5 t227 t228 t229 w0 _ ?_ ?_ A10.out).mono ?_); exact IsS48.q HI0; exact hbI_ HB (IsS48.ge HI0.out); rintro e w11 ⟨rfl, hi, hb, hk⟩; refine ⟨_, rfl, ?_⟩; replace HK := kt_ HK hk; replace HB := am_ (hb); replace HI0 := am_ (hi)) | ((with_reducible refine gate_dst (N := 24) rfl ?_); refine Kd.R_lit k73 _ 73 ?hg (N := 24) ?hd (xs := ([(⟨1, t227⟩ : S73)] : List (S73))) (inner := [.int .i64 1, .int .i64 t227]) (ok := fun _ => True) (okp := fun _ => True) ?hr ?hp (fun _ hk => hk) trivial (Below.refl _ _) (Nat.le_refl _) (by simp) ?_; (case hd => rfl); (case hg => rfl); (case hr => first | (go_simp; done) | (go_simp; rfl)); (case hp => exact (Reps.c2 (show Kd.M k73 _ _ _ (⟨1, t227⟩ : S73) [.int .i64 1, .int .i64 t227] from (k73_mkM _ _ _ (⟨1, t227⟩ : S73) )) (Reps.none _ _))); intro v231 w12 ho13 hb hg_ hnew_; clear hg_ hnew_; (first | rw [← Ny230.out] at ho13 | (simp only [Int.reduceToNat] at ho13; rw [← Ny230.out] at ho13)); have HO232 := am_ (Kd.R_lower ho13 (keep_size (hk_ HK))); replace HK := hkb_ HK hb; replace HB := am_ (below_step (hbI_ HB (IsS48.ge HI0.out)) hb); replace HI0 := IsS48.b HI0 hb; clear hb ho13))
 go_ret
 exact ⟨_, se_, Kd.R_p HO232, IsS48.q HI0, hbI_ HB (IsS48.ge HI0.out), hk_ HK⟩

/-! ### spec_l1Cur_among: function 58 -/
def spec_l1Cur_among.f (s0_0 : List Int) (s0_1 : Int) (s0_2 : Int) (l1 : List Int) : Option (Int × Int × Int) := (spec_l1Cur_pick.f s0_0 s0_1 s0_2 (l1.length : Int)).bind fun bt240 => (if 0 ≤ bt240.1 then (if bt240.1 < (l1.length : Int) then (some (rd l1 bt240.1, bt240.2.1, bt240.2.2)) else (none)) else (none))
theorem spec_l1Cur_among.calls (g : Nat) (s0_0 : List Int) (s0_1 : Int) (s0_2 : Int) (A1 : Option Addr) (c1 : Nat) (l1 : List Int) (r1 : Int) (r2 : Int) (r3 : Int) (w0 w : World) (hI : IsS48 w0 w g s0_0 s0_1 s0_2) (hB : Below w0.heap.size w0 w) (hr1 : Kd.C (Kd.int .i64) w A1 l1.length l1) (hc1 : l1.length ≤ c1) (hf1 : ∀ ad, A1 = some ad → 0 < l1.length → ad.block ≠ g) (h : spec_l1Cur_among.f s0_0 s0_1 s0_2 l1 = some (r1, r2, r3)) :
  Calls Tryz.prog 58 #[.pointer (some ⟨g, 0, none⟩), .slice A1 l1.length c1] w fun e w' => e = .returned (.int .i64 r1) ∧ IsS48 w0 w' g s0_0 r2 r3 ∧ Below w0.heap.size w0 w' ∧ KeepBut w w' g none := by
 have HR1 := am_ hr1
 have HC1 := am_ hc1
 clear hr1 hc1
 have HI0 := am_ hI
 have HK := am_ (KeepBut.refl w g none)
 have HL := am_ hB.size
 clear hI
 have HW0 := am_ hB.size
 have HB := am_ hB
 clear hB
 have H := h
 unfold spec_l1Cur_among.f at H
 clear h
 revert H; refine bn_ ?_; rintro ⟨t240, t241, t242⟩ A3 H; try dsimp only at H
 revert H; refine pd_ fun c4b0 H => ?_
 revert H; refine pd_ fun c5b0 H => ?_
 simp only [Option.some.injEq, Prod.mk.injEq] at H
 obtain ⟨rfl, rfl, rfl⟩ := H
 go_enter Tryz.func58, Tryz.ntmps58
 go_wp2_with (first | ((with_reducible refine gk_ 29 ?_); refine gq_ 9 Tryz.func29 #[.pointer (some ⟨g, 0, none⟩), .int .i64 (l1.length : Int)] ?_; (with_reducible refine (spec_l1Cur_pick.calls g s0_0 s0_1 s0_2 (l1.length : Int) t240 t241 t242 w0 _ ?_ ?_ A3.out).mono ?_); exact IsS48.q HI0; exact hbI_ HB (IsS48.ge HI0.out); rintro e w6 ⟨rfl, hi, hb, hk⟩; refine ⟨_, rfl, ?_⟩; replace HK := kt_ HK hk; replace HB := am_ (hb); replace HI0 := am_ (hi); have p243 : 0 ≤ (t240 : Int) := od_; have q243 : t240 < (l1.length : Int) := od_; obtain ⟨ad243, e243, hx243_0⟩ := Kd.at_int HR1.out t240 p243 q243; cases e243; replace hx243_0 := keep_cell HK.out hx243_0 (by first | (rw [add_block]; exact hf1 _ rfl (by omega)) | exact hf1 _ rfl (by omega) | exact hf1 ad243 rfl (by omega)); replace p243 := eq_true p243; replace q243 := eq_true q243))
 go_ret
 exact ⟨se_, IsS48.q HI0, hbI_ HB (IsS48.ge HI0.out), hk_ HK⟩

end Go.Proofs.YtihjlepgmppedaaGreatDoor.PFnRules
