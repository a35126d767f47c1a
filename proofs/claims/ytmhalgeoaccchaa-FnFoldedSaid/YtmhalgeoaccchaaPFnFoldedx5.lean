-- Laid for this claim by wip/tools/print2.sh, a changed copy of the kit's print (wip/tools/patch_print.py): not by print.sh. Changed by wip/fix/strsize.py.
import Derived.Test.YtmhalgeoaccchaaPFnFoldedx0
import Derived.Test.YtmhalgeoaccchaaPFnFoldedx2
import Derived.Test.YtmhalgeoaccchaaPFnFoldedx3
import Derived.Test.YtmhalgeoaccchaaPFnFoldedx4
namespace Go.Proofs.Ytmhalgeoaccchaa.PFnFolded
open Go.RowKit Go.Proofs.YtmhalgeoaccchaaW.PrintWords Go.Proofs.YtmhalgeoaccchaaW.PrintLast Go.Proofs.YtmhalgeoaccchaaW.PrintMore
attribute [local go_sem] max2_int min2_int max_two min_two max_three min_three max_four min_four   -- for this text's walks alone
set_option linter.unusedVariables false
set_option linter.unusedSimpArgs false

/-! ### spec_ParseRule: function 41 -/
def spec_ParseRule.f (k : Nat) (a0 : ByteArray) : Option (List S52 × Bool) :=
 if 600 < a0.size then some ([], false) else (ruRun k a0).bind fun r => if r.2.2 = true then (spec_ruGood.f k r.2.1).bind fun b => if b = true then some (r.2.1, true) else some ([], false) else some ([], false)
set_option maxHeartbeats 8000000 in
set_option maxRecDepth 100000 in
theorem spec_ParseRule.calls (k : Nat) (a0 : ByteArray) (r1 : List S52) (r2 : Bool) (w : World) (h : spec_ParseRule.f k a0 = some (r1, r2)) :
  Calls Try.prog 41 #[.string a0] w fun e w' => ∃ v0_ : Value, e = .returned (.tuple #[v0_, .bool r2]) ∧ Kd.R k52 52 w' w.heap.size (fun _ => True) v0_ r1 ∧ Below w.heap.size w w' := by
 unfold spec_ParseRule.f at h
 by_cases hl : 600 < a0.size
 ·rw [if_pos hl] at h
  simp only [Option.some.injEq, Prod.mk.injEq] at h
  obtain ⟨rfl, rfl⟩ := h
  have d1 : decide ((600 : Int) < (a0.size : Int)) = true := decide_eq_true (by omega)
  have d2 : decide (600 < a0.size) = true := decide_eq_true hl
  clear hl
  go_enter Try.func41, Try.ntmps41
  go_wp2
  go_ret2
  exact ⟨_, rfl, Kd.R_nil _ _ _ _ _, Below.refl _ _⟩
 ·rw [if_neg hl] at h
  have d1 : decide ((600 : Int) < (a0.size : Int)) = false := decide_eq_false (by omega)
  have d2 : decide (600 < a0.size) = false := decide_eq_false hl
  clear hl
  obtain ⟨⟨j, o, ok⟩, e1, h⟩ := Option.bind_eq_some_iff.mp h
  have E1 := Aside0.mk e1
  clear e1
  by_cases hok : ok = true
  ·subst hok
   rw [if_pos rfl] at h
   obtain ⟨b, e2, h⟩ := Option.bind_eq_some_iff.mp h
   have E2 := Aside0.mk e2
   clear e2
   by_cases hb : b = true
   ·subst hb
    rw [if_pos rfl] at h
    simp only [Option.some.injEq, Prod.mk.injEq] at h
    obtain ⟨rfl, rfl⟩ := h
    go_enter Try.func41, Try.ntmps41
    go_wp2_with (first | ((with_reducible refine gate_callee (f := 48) rfl ?_); refine gl_ (some 11) Try.func48 #[.string a0] rfl rfl rfl ?_; (with_reducible refine (ruParse_calls k a0 j o true _ E1.out).mono ?_); rintro e w1 ⟨g, ws, rfl, hr_⟩; refine ⟨_, rfl, ?_⟩; have HI := Aside0.mk hr_; clear hr_; obtain ⟨Ap, cp, hd2, hpl, HC, HO⟩ := HI.out.parts) | ((with_reducible refine gate_callee (f := 18) rfl ?_); (try (refine gate_guard (by rfl) ?_; dsimp only)); refine gl_ (some 21) Try.func18 #[.slice Ap o.length cp] rfl rfl rfl ?_; (with_reducible refine (spec_ruGood.calls k Ap cp o true _ ?sa ?sb E2.out).mono ?_); (case sa => exact HC.out); (case sb => exact hpl); rintro e w2 ⟨rfl, hbq_⟩; refine ⟨_, rfl, ?_⟩; have HB := Aside0.mk hbq_; have hd2' := HB.out.cell (p := ⟨g, 2, none⟩) (World.block_lt_of_cell? _ _ hd2); rw [hd2] at hd2'; clear hbq_))
    go_ret2
    exact ⟨_, rfl, Kd.R_below HO.out HB.out, below_step HI.out.2.1 HB.out⟩
   ·replace hb := Bool.eq_false_iff.mpr hb
    subst hb
    rw [if_neg (by simp)] at h
    simp only [Option.some.injEq, Prod.mk.injEq] at h
    obtain ⟨rfl, rfl⟩ := h
    go_enter Try.func41, Try.ntmps41
    go_wp2_with (first | ((with_reducible refine gate_callee (f := 48) rfl ?_); refine gl_ (some 11) Try.func48 #[.string a0] rfl rfl rfl ?_; (with_reducible refine (ruParse_calls k a0 j o true _ E1.out).mono ?_); rintro e w1 ⟨g, ws, rfl, hr_⟩; refine ⟨_, rfl, ?_⟩; have HI := Aside0.mk hr_; clear hr_; obtain ⟨Ap, cp, hd2, hpl, HC, HO⟩ := HI.out.parts) | ((with_reducible refine gate_callee (f := 18) rfl ?_); (try (refine gate_guard (by rfl) ?_; dsimp only)); refine gl_ (some 21) Try.func18 #[.slice Ap o.length cp] rfl rfl rfl ?_; (with_reducible refine (spec_ruGood.calls k Ap cp o false _ ?sa ?sb E2.out).mono ?_); (case sa => exact HC.out); (case sb => exact hpl); rintro e w2 ⟨rfl, hbq_⟩; refine ⟨_, rfl, ?_⟩; have HB := Aside0.mk hbq_; have hd2' := HB.out.cell (p := ⟨g, 2, none⟩) (World.block_lt_of_cell? _ _ hd2); rw [hd2] at hd2'; clear hbq_))
    go_ret2
    exact ⟨_, rfl, Kd.R_nil _ _ _ _ _, below_step HI.out.2.1 HB.out⟩
  ·replace hok := Bool.eq_false_iff.mpr hok
   subst hok
   rw [if_neg (by simp)] at h
   simp only [Option.some.injEq, Prod.mk.injEq] at h
   obtain ⟨rfl, rfl⟩ := h
   go_enter Try.func41, Try.ntmps41
   go_wp2_with (first | ((with_reducible refine gate_callee (f := 48) rfl ?_); refine gl_ (some 11) Try.func48 #[.string a0] rfl rfl rfl ?_; (with_reducible refine (ruParse_calls k a0 j o false _ E1.out).mono ?_); rintro e w1 ⟨g, ws, rfl, hr_⟩; refine ⟨_, rfl, ?_⟩; have HI := Aside0.mk hr_; clear hr_))
   go_ret2
   exact ⟨_, rfl, Kd.R_nil _ _ _ _ _, HI.out.2.1⟩

/-! ### spec_l1Cur_one: function 49 -/
def spec_l1Cur_one.f (s0_0 : List Int) (s0_1 : Int) (s0_2 : Int) (a1 : Int) : Option (Bool × Int × Int) := (spec_l1Cur_pick.f s0_0 s0_1 s0_2 a1).bind fun bt169 => (some ((bt169.1 == 0), bt169.2.1, bt169.2.2))
set_option maxHeartbeats 8000000 in
set_option maxRecDepth 100000 in
theorem spec_l1Cur_one.calls (g : Nat) (s0_0 : List Int) (s0_1 : Int) (s0_2 : Int) (a1 : Int) (r1 : Bool) (r2 : Int) (r3 : Int) (w0 w : World) (hI : IsS40 w0 w g s0_0 s0_1 s0_2) (hB : Below w0.heap.size w0 w) (h : spec_l1Cur_one.f s0_0 s0_1 s0_2 a1 = some (r1, r2, r3)) :
  Calls Try.prog 49 #[.pointer (some ⟨g, 0, none⟩), .int .i64 a1] w fun e w' => e = .returned (.bool r1) ∧ IsS40 w0 w' g s0_0 r2 r3 ∧ Below w0.heap.size w0 w' ∧ KeepBut w w' g none := by
 have HI0 := Aside0.mk hI
 have HK := Aside0.mk (KeepBut.refl w g none)
 have HL := Aside0.mk hB.size
 clear hI
 have HW0 := Aside0.mk hB.size
 have HB := Aside0.mk hB
 clear hB
 have H : ((spec_l1Cur_pick.f s0_0 s0_1 s0_2 a1).bind fun bt169 => (some ((bt169.1 == 0), bt169.2.1, bt169.2.2))) = some (r1, r2, r3) := h
 clear h
 replace H := Option.bind_eq_some_iff.mp H
 obtain ⟨⟨t169, t170, t171⟩, A30, H⟩ := H
 replace H : (some ((t169 == 0), t170, t171)) = some (r1, r2, r3) := H
 have A3 := Aside0.mk A30
 clear A30
 simp only [Option.some.injEq, Prod.mk.injEq] at H
 obtain ⟨rfl, rfl, rfl⟩ := H
 go_enter Try.func49, Try.ntmps49
 go_wp2_with (first | ((with_reducible refine gate_callee (f := 24) rfl ?_); refine gl_ (some 7) Try.func24 #[.pointer (some ⟨g, 0, none⟩), .int .i64 a1] rfl rfl rfl ?_; (with_reducible refine (spec_l1Cur_pick.calls g s0_0 s0_1 s0_2 a1 t169 t170 t171 w0 _ ?side1 ?side2 A3.out).mono ?_); (case side1 => exact IsS40.q HI0); (case side2 => exact hbI_ HB (IsS40.ge HI0.out)); rintro e w4 ⟨rfl, hi, hb, hk⟩; refine ⟨_, rfl, ?_⟩; replace HK := Aside0.mk (KeepBut.trans (hk_ HK) hk (.inl rfl)); replace HB := Aside0.mk (hb); replace HI0 := Aside0.mk (hi); (try clear hb); (try clear hb2); (try clear hk); (try clear hi)))
 go_ret
 exact ⟨by first | rfl | (simp [errW_none, errW_some] <;> rfl) | (simp [*, errW_none, errW_some] <;> rfl), IsS40.q HI0, hbI_ HB (IsS40.ge HI0.out), hk_ HK⟩

/-! ### spec_l1Cur_of: function 50 -/
def spec_l1Cur_of.f (s0_0 : List Int) (s0_1 : Int) (s0_2 : Int) (l1 : List ByteArray) : Option (ByteArray × Int × Int) := (spec_l1Cur_pick.f s0_0 s0_1 s0_2 (l1.length : Int)).bind fun bt172 => (if 0 ≤ bt172.1 then (if bt172.1 < (l1.length : Int) then (some (rdOf ByteArray.empty l1 bt172.1, bt172.2.1, bt172.2.2)) else (none)) else (none))
set_option maxHeartbeats 8000000 in
set_option maxRecDepth 100000 in
theorem spec_l1Cur_of.calls (g : Nat) (s0_0 : List Int) (s0_1 : Int) (s0_2 : Int) (A1 : Option Addr) (c1 : Nat) (l1 : List ByteArray) (r1 : ByteArray) (r2 : Int) (r3 : Int) (w0 w : World) (hI : IsS40 w0 w g s0_0 s0_1 s0_2) (hB : Below w0.heap.size w0 w) (hr1 : Kd.C Kd.string w A1 l1.length l1) (hc1 : l1.length ≤ c1) (hf1 : ∀ ad, A1 = some ad → 0 < l1.length → ad.block ≠ g) (h : spec_l1Cur_of.f s0_0 s0_1 s0_2 l1 = some (r1, r2, r3)) :
  Calls Try.prog 50 #[.pointer (some ⟨g, 0, none⟩), .slice A1 l1.length c1] w fun e w' => e = .returned (.string r1) ∧ IsS40 w0 w' g s0_0 r2 r3 ∧ Below w0.heap.size w0 w' ∧ KeepBut w w' g none := by
 have HR1 := Aside0.mk hr1
 have HC1 := Aside0.mk hc1
 clear hr1 hc1
 have HI0 := Aside0.mk hI
 have HK := Aside0.mk (KeepBut.refl w g none)
 have HL := Aside0.mk hB.size
 clear hI
 have HW0 := Aside0.mk hB.size
 have HB := Aside0.mk hB
 clear hB
 have H : ((spec_l1Cur_pick.f s0_0 s0_1 s0_2 (l1.length : Int)).bind fun bt172 => (if 0 ≤ bt172.1 then (if bt172.1 < (l1.length : Int) then (some (rdOf ByteArray.empty l1 bt172.1, bt172.2.1, bt172.2.2)) else (none)) else (none))) = some (r1, r2, r3) := h
 clear h
 replace H := Option.bind_eq_some_iff.mp H
 obtain ⟨⟨t172, t173, t174⟩, A30, H⟩ := H
 replace H : (if 0 ≤ t172 then (if t172 < (l1.length : Int) then (some (rdOf ByteArray.empty l1 t172, t173, t174)) else (none)) else (none)) = some (r1, r2, r3) := H
 have A3 := Aside0.mk A30
 clear A30
 by_cases c4 : 0 ≤ t172
 ·rw [if_pos c4] at H
  have c4b0 : decide (0 ≤ t172) = true := decide_eq_true c4
  clear c4
  by_cases c5 : t172 < (l1.length : Int)
  ·rw [if_pos c5] at H
   have c5b0 : decide (t172 < (l1.length : Int)) = true := decide_eq_true c5
   clear c5
   simp only [Option.some.injEq, Prod.mk.injEq] at H
   obtain ⟨rfl, rfl, rfl⟩ := H
   go_enter Try.func50, Try.ntmps50
   go_wp2_with (first | ((with_reducible refine gate_callee (f := 24) rfl ?_); refine gl_ (some 9) Try.func24 #[.pointer (some ⟨g, 0, none⟩), .int .i64 (l1.length : Int)] rfl rfl rfl ?_; (with_reducible refine (spec_l1Cur_pick.calls g s0_0 s0_1 s0_2 (l1.length : Int) t172 t173 t174 w0 _ ?side1 ?side2 A3.out).mono ?_); (case side1 => exact IsS40.q HI0); (case side2 => exact hbI_ HB (IsS40.ge HI0.out)); rintro e w6 ⟨rfl, hi, hb, hk⟩; refine ⟨_, rfl, ?_⟩; replace HK := Aside0.mk (KeepBut.trans (hk_ HK) hk (.inl rfl)); replace HB := Aside0.mk (hb); replace HI0 := Aside0.mk (hi); (try clear hb); (try clear hb2); (try clear hk); (try clear hi); have p175 : 0 ≤ (t172 : Int) := of_decide_eq_true (by first | (with_reducible assumption) | assumption); have q175 : t172 < (l1.length : Int) := of_decide_eq_true (by first | (with_reducible assumption) | assumption); obtain ⟨ad175, e175, hx175_0⟩ := Kd.at_string HR1.out t172 p175 q175; cases e175; replace hx175_0 := keep_cell HK.out hx175_0 (by first | (rw [add_block]; exact hf1 _ rfl (by omega)) | exact hf1 _ rfl (by omega) | exact hf1 ad175 rfl (by omega)); replace p175 := eq_true p175; replace q175 := eq_true q175))
   go_ret
   exact ⟨by first | rfl | (simp [errW_none, errW_some] <;> rfl) | (simp [*, errW_none, errW_some] <;> rfl), IsS40.q HI0, hbI_ HB (IsS40.ge HI0.out), hk_ HK⟩
  ·rw [if_neg c5] at H
   exact absurd H (by simp)
 ·rw [if_neg c4] at H
  exact absurd H (by simp)

/-! ### spec_l1Cur_wording: function 42 -/
mutual
def spec_l1Cur_wording.j0 : Nat → Int → Bool → List Int → Int → Int → Option (ByteArray × Int × Int)
 | 0, _, _, _, _, _ => none
 | k + 1, x1, x12, x1000, x1001, x1002 => if x12 = true then ((spec_l1Cur_one.f x1000 x1001 x1002 2).bind fun bt179 => (if bt179.1 = true then ((spec_ruFields.f).bind fun t182 => ((spec_l1Cur_of.f x1000 bt179.2.1 bt179.2.2 t182).bind fun bt185 => (some (bt185.1, bt185.2.1, bt185.2.2)))) else ((spec_l1Cur_of.f x1000 bt179.2.1 bt179.2.2 (([(⟨#[48]⟩ : ByteArray), (⟨#[49]⟩ : ByteArray), (⟨#[50]⟩ : ByteArray), (⟨#[51]⟩ : ByteArray), (⟨#[53]⟩ : ByteArray), (⟨#[49, 50]⟩ : ByteArray), (⟨#[49, 48, 48]⟩ : ByteArray), (⟨#[49, 48, 48, 48]⟩ : ByteArray), (⟨#[49, 48, 48, 48, 48, 48, 48]⟩ : ByteArray)] : List ByteArray))).bind fun bt191 => (some (bt191.1, bt191.2.1, bt191.2.2))))) else ((spec_l1Cur_wording.f k x1000 x1001 x1002 (wrap64 (x1 - 1))).bind fun bt194 => ((spec_l1Cur_wording.f k x1000 bt194.2.1 bt194.2.2 (wrap64 (x1 - 1))).bind fun bt197 => ((spec_l1Cur_pick.f x1000 bt197.2.1 bt197.2.2 7).bind fun bt200 => (if bt200.1 = 0 then (if 3 + bt194.1.size ≤ 9223372036854775807 then ((spec_l1Cur_of.f x1000 bt200.2.1 bt200.2.2 (([(⟨#[32, 60, 32]⟩ : ByteArray), (⟨#[32, 61, 32]⟩ : ByteArray), (⟨#[32, 62, 32]⟩ : ByteArray)] : List ByteArray))).bind fun bt206 => (if ((⟨#[105, 102, 32]⟩ : ByteArray) ++ bt194.1).size + bt206.1.size ≤ 9223372036854775807 then (if (((⟨#[105, 102, 32]⟩ : ByteArray) ++ bt194.1) ++ bt206.1).size + bt197.1.size ≤ 9223372036854775807 then (if ((((⟨#[105, 102, 32]⟩ : ByteArray) ++ bt194.1) ++ bt206.1) ++ bt197.1).size + 6 ≤ 9223372036854775807 then ((spec_l1Cur_wording.f k x1000 bt206.2.1 bt206.2.2 (wrap64 (x1 - 1))).bind fun bt209 => (if (((((⟨#[105, 102, 32]⟩ : ByteArray) ++ bt194.1) ++ bt206.1) ++ bt197.1) ++ (⟨#[32, 116, 104, 101, 110, 32]⟩ : ByteArray)).size + bt209.1.size ≤ 9223372036854775807 then (if ((((((⟨#[105, 102, 32]⟩ : ByteArray) ++ bt194.1) ++ bt206.1) ++ bt197.1) ++ (⟨#[32, 116, 104, 101, 110, 32]⟩ : ByteArray)) ++ bt209.1).size + 6 ≤ 9223372036854775807 then ((spec_l1Cur_wording.f k x1000 bt209.2.1 bt209.2.2 (wrap64 (x1 - 1))).bind fun bt212 => (if (((((((⟨#[105, 102, 32]⟩ : ByteArray) ++ bt194.1) ++ bt206.1) ++ bt197.1) ++ (⟨#[32, 116, 104, 101, 110, 32]⟩ : ByteArray)) ++ bt209.1) ++ (⟨#[32, 101, 108, 115, 101, 32]⟩ : ByteArray)).size + bt212.1.size ≤ 9223372036854775807 then (some ((((((((⟨#[105, 102, 32]⟩ : ByteArray) ++ bt194.1) ++ bt206.1) ++ bt197.1) ++ (⟨#[32, 116, 104, 101, 110, 32]⟩ : ByteArray)) ++ bt209.1) ++ (⟨#[32, 101, 108, 115, 101, 32]⟩ : ByteArray)) ++ bt212.1, bt212.2.1, bt212.2.2)) else (none))) else (none)) else (none))) else (none)) else (none)) else (none))) else (none)) else (if bt200.1 = 1 then (if 2 + bt194.1.size ≤ 9223372036854775807 then (if ((⟨#[40, 32]⟩ : ByteArray) ++ bt194.1).size + 2 ≤ 9223372036854775807 then (some (((⟨#[40, 32]⟩ : ByteArray) ++ bt194.1) ++ (⟨#[32, 41]⟩ : ByteArray), bt200.2.1, bt200.2.2)) else (none)) else (none)) else (if bt200.1 = 2 then (if 2 + bt194.1.size ≤ 9223372036854775807 then (if ((⟨#[40, 32]⟩ : ByteArray) ++ bt194.1).size + 3 ≤ 9223372036854775807 then ((spec_l1Cur_of.f x1000 bt200.2.1 bt200.2.2 (([(⟨#[42]⟩ : ByteArray), (⟨#[47]⟩ : ByteArray), (⟨#[45]⟩ : ByteArray)] : List ByteArray))).bind fun bt218 => (if (((⟨#[40, 32]⟩ : ByteArray) ++ bt194.1) ++ (⟨#[32, 41, 32]⟩ : ByteArray)).size + bt218.1.size ≤ 9223372036854775807 then (if ((((⟨#[40, 32]⟩ : ByteArray) ++ bt194.1) ++ (⟨#[32, 41, 32]⟩ : ByteArray)) ++ bt218.1).size + 3 ≤ 9223372036854775807 then (if (((((⟨#[40, 32]⟩ : ByteArray) ++ bt194.1) ++ (⟨#[32, 41, 32]⟩ : ByteArray)) ++ bt218.1) ++ (⟨#[32, 40, 32]⟩ : ByteArray)).size + bt197.1.size ≤ 9223372036854775807 then (if ((((((⟨#[40, 32]⟩ : ByteArray) ++ bt194.1) ++ (⟨#[32, 41, 32]⟩ : ByteArray)) ++ bt218.1) ++ (⟨#[32, 40, 32]⟩ : ByteArray)) ++ bt197.1).size + 2 ≤ 9223372036854775807 then (some (((((((⟨#[40, 32]⟩ : ByteArray) ++ bt194.1) ++ (⟨#[32, 41, 32]⟩ : ByteArray)) ++ bt218.1) ++ (⟨#[32, 40, 32]⟩ : ByteArray)) ++ bt197.1) ++ (⟨#[32, 41]⟩ : ByteArray), bt218.2.1, bt218.2.2)) else (none)) else (none)) else (none)) else (none))) else (none)) else (none)) else (if bt194.1.size + 1 ≤ 9223372036854775807 then ((spec_l1Cur_of.f x1000 bt200.2.1 bt200.2.2 (([(⟨#[43]⟩ : ByteArray), (⟨#[45]⟩ : ByteArray), (⟨#[42]⟩ : ByteArray), (⟨#[47]⟩ : ByteArray)] : List ByteArray))).bind fun bt224 => (if (bt194.1 ++ (⟨#[32]⟩ : ByteArray)).size + bt224.1.size ≤ 9223372036854775807 then (if ((bt194.1 ++ (⟨#[32]⟩ : ByteArray)) ++ bt224.1).size + 1 ≤ 9223372036854775807 then (if (((bt194.1 ++ (⟨#[32]⟩ : ByteArray)) ++ bt224.1) ++ (⟨#[32]⟩ : ByteArray)).size + bt197.1.size ≤ 9223372036854775807 then (some ((((bt194.1 ++ (⟨#[32]⟩ : ByteArray)) ++ bt224.1) ++ (⟨#[32]⟩ : ByteArray)) ++ bt197.1, bt224.2.1, bt224.2.2)) else (none)) else (none)) else (none))) else (none))))))))
def spec_l1Cur_wording.f : Nat → List Int → Int → Int → Int → Option (ByteArray × Int × Int)
 | 0, _, _, _, _ => none
 | k + 1, s0_0, s0_1, s0_2, a1 => if a1 = 0 then (spec_l1Cur_wording.j0 k a1 true s0_0 s0_1 s0_2) else ((spec_l1Cur_one.f s0_0 s0_1 s0_2 4).bind fun bt176 => (spec_l1Cur_wording.j0 k a1 bt176.1 s0_0 bt176.2.1 bt176.2.2))
end
set_option maxHeartbeats 8000000 in
set_option maxRecDepth 100000 in
theorem spec_l1Cur_wording.calls (k : Nat) : ∀ (g : Nat) (s0_0 : List Int) (s0_1 : Int) (s0_2 : Int) (a1 : Int) (r1 : ByteArray) (r2 : Int) (r3 : Int) (w0 w : World) (hI : IsS40 w0 w g s0_0 s0_1 s0_2) (hB : Below w0.heap.size w0 w) (h : spec_l1Cur_wording.f k s0_0 s0_1 s0_2 a1 = some (r1, r2, r3)),
  Calls Try.prog 42 #[.pointer (some ⟨g, 0, none⟩), .int .i64 a1] w fun e w' => e = .returned (.string r1) ∧ IsS40 w0 w' g s0_0 r2 r3 ∧ Below w0.heap.size w0 w' ∧ KeepBut w w' g none := by
 induction k using Nat.strongRecOn with
 | _ k ih =>
 intro g s0_0 s0_1 s0_2 a1 r1 r2 r3 w0 w hI hB h
 cases k with
 | zero => exact absurd h (by simp [spec_l1Cur_wording.f])
 | succ k =>
 simp only [spec_l1Cur_wording.f] at h
 have HI0 := Aside0.mk hI
 have HK := Aside0.mk (KeepBut.refl w g none)
 have HL := Aside0.mk hB.size
 clear hI
 have HW0 := Aside0.mk hB.size
 have HB := Aside0.mk hB
 clear hB
 have H : (if a1 = 0 then (spec_l1Cur_wording.j0 k a1 true s0_0 s0_1 s0_2) else ((spec_l1Cur_one.f s0_0 s0_1 s0_2 4).bind fun bt176 => (spec_l1Cur_wording.j0 k a1 bt176.1 s0_0 bt176.2.1 bt176.2.2))) = some (r1, r2, r3) := h
 clear h
 have HC3 := Aside0.mk H
 clear H
 go_enter Try.func42, Try.ntmps42
 go_upto_region 1 with (fail)
 go_cut [12] (fun v12 wc => ∃ (kq : Nat) (x12_2 : Bool) (x1001_2 : Int) (x1002_2 : Int), v12 = .bool x12_2 ∧ Aside0 (spec_l1Cur_wording.j0 kq a1 x12_2 s0_0 x1001_2 x1002_2 = some (r1, r2, r3)) ∧ Aside0 (kq ≤ k) ∧ Aside0 (IsS40 w0 wc g s0_0 x1001_2 x1002_2) ∧ Aside0 (KeepBut w wc g none) ∧ Aside0 (Below w0.heap.size w0 wc))
 case first =>
  have H := HC3.out
  clear HC3
  by_cases c4 : a1 = 0
  ·rw [if_pos c4] at H
   have c4b0 : (a1 == 0) = true := beq_iff_eq.mpr c4
   have c4b1 : (a1 != 0) = false := bne_eq_false_iff_eq.mpr c4
   clear c4
   (first | rw [c4b0] | (simp only [i64_w, i32_w]; rw [c4b0]) | skip)
   have H' := Aside0.mk H
   clear H
   go_wp2
   go_meet
   case rel => exact ⟨_, (true), (s0_1), (s0_2), (by first | rfl | (simp; done) | (simp [*]; done)), H', ⟨by first | omega | exact Nat.le_refl _⟩, ⟨IsS40.q HI0⟩, ⟨hk_ HK⟩, ⟨hbI_ HB (IsS40.ge HI0.out)⟩⟩
  ·rw [if_neg c4] at H
   have c4b0 : (a1 == 0) = false := beq_eq_false_iff_ne.mpr c4
   have c4b1 : (a1 != 0) = true := bne_iff_ne.mpr c4
   (first | rw [c4b0] | (simp only [i64_w, i32_w]; rw [c4b0]) | skip)
   replace H := Option.bind_eq_some_iff.mp H
   obtain ⟨⟨t176, t177, t178⟩, A50, H⟩ := H
   replace H : (spec_l1Cur_wording.j0 k a1 t176 s0_0 t177 t178) = some (r1, r2, r3) := H
   have A5 := Aside0.mk A50
   clear A50
   have H' := Aside0.mk H
   clear H
   go_wp2_with (first | (go_at_call 49; (with_reducible refine (spec_l1Cur_one.calls g s0_0 s0_1 s0_2 4 t176 t177 t178 w0 _ ?side1 ?side2 A5.out).mono ?_); (case side1 => exact IsS40.q HI0); (case side2 => exact hbI_ HB (IsS40.ge HI0.out)); rintro e w6 ⟨rfl, hi, hb, hk⟩; have n0_ := Aside0.mk (KeepBut.trans (hk_ HK) hk (.inl rfl)); have n1_ := Aside0.mk (hb); have n2_ := Aside0.mk (hi); clear HK; clear HB; clear HI0; have HK := n0_; have HB := n1_; have HI0 := n2_; clear n0_ n1_ n2_; (try clear hb); (try clear hb2); (try clear hk); (try clear hi)))
   go_meet
   case rel => exact ⟨_, (t176), (t177), (t178), (by first | rfl | (simp; done) | (simp [*]; done)), H', ⟨by first | omega | exact Nat.le_refl _⟩, ⟨IsS40.q HI0⟩, ⟨hk_ HK⟩, ⟨hbI_ HB (IsS40.ge HI0.out)⟩⟩
 case rest =>
  clear HC3
  (try clear p2); (try clear c4); (try clear c4b0); (try clear c4b1)
  obtain ⟨kq, x12_2, x1001_2, x1002_2, rfl, HA, HJ2, HI0, HK, HB⟩ := hcut
  cases kq with
  | zero => exact absurd HA.out (by simp [spec_l1Cur_wording.j0])
  | succ kj2 =>
   have H := HA.out
   clear HA
   simp only [spec_l1Cur_wording.j0] at H
   by_cases c7 : x12_2 = true
   ·subst c7
    have H1 : ((spec_l1Cur_one.f s0_0 x1001_2 x1002_2 2).bind fun bt179 => (if bt179.1 = true then ((spec_ruFields.f).bind fun t182 => ((spec_l1Cur_of.f s0_0 bt179.2.1 bt179.2.2 t182).bind fun bt185 => (some (bt185.1, bt185.2.1, bt185.2.2)))) else ((spec_l1Cur_of.f s0_0 bt179.2.1 bt179.2.2 (([(⟨#[48]⟩ : ByteArray), (⟨#[49]⟩ : ByteArray), (⟨#[50]⟩ : ByteArray), (⟨#[51]⟩ : ByteArray), (⟨#[53]⟩ : ByteArray), (⟨#[49, 50]⟩ : ByteArray), (⟨#[49, 48, 48]⟩ : ByteArray), (⟨#[49, 48, 48, 48]⟩ : ByteArray), (⟨#[49, 48, 48, 48, 48, 48, 48]⟩ : ByteArray)] : List ByteArray))).bind fun bt191 => (some (bt191.1, bt191.2.1, bt191.2.2))))) = some (r1, r2, r3) := by rw [if_pos rfl] at H; exact H
    clear H
    have H := H1
    clear H1
    replace H := Option.bind_eq_some_iff.mp H
    obtain ⟨⟨t179, t180, t181⟩, A80, H⟩ := H
    replace H : (if t179 = true then ((spec_ruFields.f).bind fun t182 => ((spec_l1Cur_of.f s0_0 t180 t181 t182).bind fun bt185 => (some (bt185.1, bt185.2.1, bt185.2.2)))) else ((spec_l1Cur_of.f s0_0 t180 t181 (([(⟨#[48]⟩ : ByteArray), (⟨#[49]⟩ : ByteArray), (⟨#[50]⟩ : ByteArray), (⟨#[51]⟩ : ByteArray), (⟨#[53]⟩ : ByteArray), (⟨#[49, 50]⟩ : ByteArray), (⟨#[49, 48, 48]⟩ : ByteArray), (⟨#[49, 48, 48, 48]⟩ : ByteArray), (⟨#[49, 48, 48, 48, 48, 48, 48]⟩ : ByteArray)] : List ByteArray))).bind fun bt191 => (some (bt191.1, bt191.2.1, bt191.2.2)))) = some (r1, r2, r3) := H
    have A8 := Aside0.mk A80
    clear A80
    by_cases c9 : t179 = true
    ·subst c9
     have H1 : ((spec_ruFields.f).bind fun t182 => ((spec_l1Cur_of.f s0_0 t180 t181 t182).bind fun bt185 => (some (bt185.1, bt185.2.1, bt185.2.2)))) = some (r1, r2, r3) := by rw [if_pos rfl] at H; exact H
     clear H
     have H := H1
     clear H1
     replace H := Option.bind_eq_some_iff.mp H
     obtain ⟨t182, A100, H⟩ := H
     replace H : ((spec_l1Cur_of.f s0_0 t180 t181 t182).bind fun bt185 => (some (bt185.1, bt185.2.1, bt185.2.2))) = some (r1, r2, r3) := H
     have A10 := Aside0.mk A100
     clear A100
     replace H := Option.bind_eq_some_iff.mp H
     obtain ⟨⟨t185, t186, t187⟩, A110, H⟩ := H
     replace H : (some (t185, t186, t187)) = some (r1, r2, r3) := H
     have A11 := Aside0.mk A110
     clear A110
     simp only [Option.some.injEq, Prod.mk.injEq] at H
     obtain ⟨rfl, rfl, rfl⟩ := H
     go_wp2_with (first | ((with_reducible refine gate_callee (f := 49) rfl ?_); refine gl_ (some 14) Try.func49 #[.pointer (some ⟨g, 0, none⟩), .int .i64 2] rfl rfl rfl ?_; (with_reducible refine (spec_l1Cur_one.calls g s0_0 x1001_2 x1002_2 2 true t180 t181 w0 _ ?side1 ?side2 A8.out).mono ?_); (case side1 => exact IsS40.q HI0); (case side2 => exact hbI_ HB (IsS40.ge HI0.out)); rintro e w12 ⟨rfl, hi, hb, hk⟩; refine ⟨_, rfl, ?_⟩; replace HK := Aside0.mk (KeepBut.trans (hk_ HK) hk (.inl rfl)); replace HB := Aside0.mk (hb); replace HI0 := Aside0.mk (hi); (try clear hb); (try clear hb2); (try clear hk); (try clear hi)) | ((with_reducible refine gate_callee (f := 51) rfl ?_); refine gl_ (some 16) Try.func51 #[] rfl rfl rfl ?_; (with_reducible refine (spec_ruFields.calls  t182 _ A10.out).mono ?_); rintro e w13 ⟨v183, rfl, ho0, hb⟩; refine ⟨_, rfl, ?_⟩; have HO184 := Aside0.mk (Kd.R_lower ho0 (keep_size (hk_ HK))); replace HK := hkb_ HK hb; replace HB := Aside0.mk (below_step (hbI_ HB (IsS40.ge HI0.out)) hb); replace HI0 := IsS40.b HI0 hb; (try clear hb); (try clear hb2); (try clear hk); (try clear hi); (try clear ho0); obtain ⟨Ao14, co14, eo14⟩ := Kd.R_slice HO184.out; subst eo14) | ((with_reducible refine gate_callee (f := 50) rfl ?_); refine gl_ (some 17) Try.func50 #[.pointer (some ⟨g, 0, none⟩), .slice Ao14 t182.length co14] rfl rfl rfl ?_; (with_reducible refine (spec_l1Cur_of.calls g s0_0 t180 t181 _ _ t182 t185 t186 t187 w0 _ ?side1 ?side2 ?side3 ?side4 ?side5 A11.out).mono ?_); (case side1 => exact IsS40.q HI0); (case side2 => exact hbI_ HB (IsS40.ge HI0.out)); (case side3 => exact Kd.C_o HO184); (case side4 => exact (Kd.R_reads' HO184.out).2.1); (case side5 => exact far_slice (IsS40.own_ne HI0.out HO184.out (by decide))); rintro e w15 ⟨rfl, hi, hb, hk⟩; refine ⟨_, rfl, ?_⟩; have n0_ := IsS40.rk HI0 HO184 hk; have n1_ := Aside0.mk (KeepBut.trans (hk_ HK) hk (.inl rfl)); have n2_ := Aside0.mk (hb); have n3_ := Aside0.mk (hi); clear HO184 HK HB HI0; have HO184 := n0_; have HK := n1_; have HB := n2_; have HI0 := n3_; clear n0_ n1_ n2_ n3_; (try clear hb); (try clear hb2); (try clear hk); (try clear hi)))
     go_ret
     exact ⟨by first | rfl | (simp [errW_none, errW_some] <;> rfl) | (simp [*, errW_none, errW_some] <;> rfl), IsS40.q HI0, hbI_ HB (IsS40.ge HI0.out), hk_ HK⟩
    ·replace c9 := Bool.eq_false_iff.mpr c9
     subst c9
     have H1 : ((spec_l1Cur_of.f s0_0 t180 t181 (([(⟨#[48]⟩ : ByteArray), (⟨#[49]⟩ : ByteArray), (⟨#[50]⟩ : ByteArray), (⟨#[51]⟩ : ByteArray), (⟨#[53]⟩ : ByteArray), (⟨#[49, 50]⟩ : ByteArray), (⟨#[49, 48, 48]⟩ : ByteArray), (⟨#[49, 48, 48, 48]⟩ : ByteArray), (⟨#[49, 48, 48, 48, 48, 48, 48]⟩ : ByteArray)] : List ByteArray))).bind fun bt191 => (some (bt191.1, bt191.2.1, bt191.2.2))) = some (r1, r2, r3) := by rw [if_neg (show ¬ (false = true) by decide)] at H; exact H
     clear H
     have H := H1
     clear H1
     obtain ⟨y188, hy188⟩ : ∃ y_ : List ByteArray, y_ = (([(⟨#[48]⟩ : ByteArray), (⟨#[49]⟩ : ByteArray), (⟨#[50]⟩ : ByteArray), (⟨#[51]⟩ : ByteArray), (⟨#[53]⟩ : ByteArray), (⟨#[49, 50]⟩ : ByteArray), (⟨#[49, 48, 48]⟩ : ByteArray), (⟨#[49, 48, 48, 48]⟩ : ByteArray), (⟨#[49, 48, 48, 48, 48, 48, 48]⟩ : ByteArray)] : List ByteArray)) := ⟨_, rfl⟩
     replace H : ((spec_l1Cur_of.f s0_0 t180 t181 y188).bind fun bt191 => (some (bt191.1, bt191.2.1, bt191.2.2))) = some (r1, r2, r3) := by first | (rw [hy188]; with_reducible exact H) | (have H2_ := (Option.bind_some _ _).symm.trans H; rw [hy188]; with_reducible exact H2_) | (have H2_ := (Option.bind_some _ _).symm.trans H; with_reducible exact H2_) | with_reducible exact H | (rw [hy188]; exact H) | exact H
     have Ny188 := Aside0.mk hy188
     clear hy188
     replace H := Option.bind_eq_some_iff.mp H
     obtain ⟨⟨t191, t192, t193⟩, A160, H⟩ := H
     replace H : (some (t191, t192, t193)) = some (r1, r2, r3) := H
     have A16 := Aside0.mk A160
     clear A160
     simp only [Option.some.injEq, Prod.mk.injEq] at H
     obtain ⟨rfl, rfl, rfl⟩ := H
     go_wp2_with (first | ((with_reducible refine gate_callee (f := 49) rfl ?_); refine gl_ (some 14) Try.func49 #[.pointer (some ⟨g, 0, none⟩), .int .i64 2] rfl rfl rfl ?_; (with_reducible refine (spec_l1Cur_one.calls g s0_0 x1001_2 x1002_2 2 false t180 t181 w0 _ ?side1 ?side2 A8.out).mono ?_); (case side1 => exact IsS40.q HI0); (case side2 => exact hbI_ HB (IsS40.ge HI0.out)); rintro e w17 ⟨rfl, hi, hb, hk⟩; refine ⟨_, rfl, ?_⟩; replace HK := Aside0.mk (KeepBut.trans (hk_ HK) hk (.inl rfl)); replace HB := Aside0.mk (hb); replace HI0 := Aside0.mk (hi); (try clear hb); (try clear hb2); (try clear hk); (try clear hi)) | ((with_reducible refine gate_dst (N := 19) rfl ?_); refine Kd.R_lit Kd.string _ 9 ?hg (N := 19) ?hd (xs := ([(⟨#[48]⟩ : ByteArray), (⟨#[49]⟩ : ByteArray), (⟨#[50]⟩ : ByteArray), (⟨#[51]⟩ : ByteArray), (⟨#[53]⟩ : ByteArray), (⟨#[49, 50]⟩ : ByteArray), (⟨#[49, 48, 48]⟩ : ByteArray), (⟨#[49, 48, 48, 48]⟩ : ByteArray), (⟨#[49, 48, 48, 48, 48, 48, 48]⟩ : ByteArray)] : List ByteArray)) (inner := [.string (⟨#[48]⟩ : ByteArray), .string (⟨#[49]⟩ : ByteArray), .string (⟨#[50]⟩ : ByteArray), .string (⟨#[51]⟩ : ByteArray), .string (⟨#[53]⟩ : ByteArray), .string (⟨#[49, 50]⟩ : ByteArray), .string (⟨#[49, 48, 48]⟩ : ByteArray), .string (⟨#[49, 48, 48, 48]⟩ : ByteArray), .string (⟨#[49, 48, 48, 48, 48, 48, 48]⟩ : ByteArray)]) (ok := fun _ => True) (okp := fun _ => True) ?hr ?hp (fun _ hk => hk) trivial (Below.refl _ _) (Nat.le_refl _) (by simp) ?_; (case hd => rfl); (case hg => rfl); (case hr => first | (go_simp; done) | (go_simp; rfl)); (case hp => exact (Reps.one (show Kd.M Kd.string _ _ _ (⟨#[48]⟩ : ByteArray) [.string (⟨#[48]⟩ : ByteArray)] from rfl) (Reps.one (show Kd.M Kd.string _ _ _ (⟨#[49]⟩ : ByteArray) [.string (⟨#[49]⟩ : ByteArray)] from rfl) (Reps.one (show Kd.M Kd.string _ _ _ (⟨#[50]⟩ : ByteArray) [.string (⟨#[50]⟩ : ByteArray)] from rfl) (Reps.one (show Kd.M Kd.string _ _ _ (⟨#[51]⟩ : ByteArray) [.string (⟨#[51]⟩ : ByteArray)] from rfl) (Reps.one (show Kd.M Kd.string _ _ _ (⟨#[53]⟩ : ByteArray) [.string (⟨#[53]⟩ : ByteArray)] from rfl) (Reps.one (show Kd.M Kd.string _ _ _ (⟨#[49, 50]⟩ : ByteArray) [.string (⟨#[49, 50]⟩ : ByteArray)] from rfl) (Reps.one (show Kd.M Kd.string _ _ _ (⟨#[49, 48, 48]⟩ : ByteArray) [.string (⟨#[49, 48, 48]⟩ : ByteArray)] from rfl) (Reps.one (show Kd.M Kd.string _ _ _ (⟨#[49, 48, 48, 48]⟩ : ByteArray) [.string (⟨#[49, 48, 48, 48]⟩ : ByteArray)] from rfl) (Reps.one (show Kd.M Kd.string _ _ _ (⟨#[49, 48, 48, 48, 48, 48, 48]⟩ : ByteArray) [.string (⟨#[49, 48, 48, 48, 48, 48, 48]⟩ : ByteArray)] from rfl) (Reps.none _ _))))))))))); intro v189 w18 ho19 hb hg_ hnew_; clear hg_ hnew_; (first | rw [← Ny188.out] at ho19 | (simp only [Int.reduceToNat] at ho19; rw [← Ny188.out] at ho19)); have HO190 := Aside0.mk (Kd.R_lower ho19 (keep_size (hk_ HK))); replace HK := hkb_ HK hb; replace HB := Aside0.mk (below_step (hbI_ HB (IsS40.ge HI0.out)) hb); replace HI0 := IsS40.b HI0 hb; clear hb ho19; obtain ⟨Ao20, co20, eo20⟩ := Kd.R_slice HO190.out; subst eo20) | ((with_reducible refine gate_callee (f := 50) rfl ?_); refine gl_ (some 20) Try.func50 #[.pointer (some ⟨g, 0, none⟩), .slice Ao20 y188.length co20] rfl rfl rfl ?_; (with_reducible refine (spec_l1Cur_of.calls g s0_0 t180 t181 _ _ y188 t191 t192 t193 w0 _ ?side1 ?side2 ?side3 ?side4 ?side5 A16.out).mono ?_); (case side1 => exact IsS40.q HI0); (case side2 => exact hbI_ HB (IsS40.ge HI0.out)); (case side3 => exact Kd.C_o HO190); (case side4 => exact (Kd.R_reads' HO190.out).2.1); (case side5 => exact far_slice (IsS40.own_ne HI0.out HO190.out (by decide))); rintro e w21 ⟨rfl, hi, hb, hk⟩; refine ⟨_, rfl, ?_⟩; have n0_ := IsS40.rk HI0 HO190 hk; have n1_ := Aside0.mk (KeepBut.trans (hk_ HK) hk (.inl rfl)); have n2_ := Aside0.mk (hb); have n3_ := Aside0.mk (hi); clear HO190 HK HB HI0; have HO190 := n0_; have HK := n1_; have HB := n2_; have HI0 := n3_; clear n0_ n1_ n2_ n3_; (try clear hb); (try clear hb2); (try clear hk); (try clear hi)))
     go_ret
     exact ⟨by first | rfl | (simp [errW_none, errW_some] <;> rfl) | (simp [*, errW_none, errW_some] <;> rfl), IsS40.q HI0, hbI_ HB (IsS40.ge HI0.out), hk_ HK⟩
   ·replace c7 := Bool.eq_false_iff.mpr c7
    subst c7
    have H1 : ((spec_l1Cur_wording.f kj2 s0_0 x1001_2 x1002_2 (wrap64 (a1 - 1))).bind fun bt194 => ((spec_l1Cur_wording.f kj2 s0_0 bt194.2.1 bt194.2.2 (wrap64 (a1 - 1))).bind fun bt197 => ((spec_l1Cur_pick.f s0_0 bt197.2.1 bt197.2.2 7).bind fun bt200 => (if bt200.1 = 0 then (if 3 + bt194.1.size ≤ 9223372036854775807 then ((spec_l1Cur_of.f s0_0 bt200.2.1 bt200.2.2 (([(⟨#[32, 60, 32]⟩ : ByteArray), (⟨#[32, 61, 32]⟩ : ByteArray), (⟨#[32, 62, 32]⟩ : ByteArray)] : List ByteArray))).bind fun bt206 => (if ((⟨#[105, 102, 32]⟩ : ByteArray) ++ bt194.1).size + bt206.1.size ≤ 9223372036854775807 then (if (((⟨#[105, 102, 32]⟩ : ByteArray) ++ bt194.1) ++ bt206.1).size + bt197.1.size ≤ 9223372036854775807 then (if ((((⟨#[105, 102, 32]⟩ : ByteArray) ++ bt194.1) ++ bt206.1) ++ bt197.1).size + 6 ≤ 9223372036854775807 then ((spec_l1Cur_wording.f kj2 s0_0 bt206.2.1 bt206.2.2 (wrap64 (a1 - 1))).bind fun bt209 => (if (((((⟨#[105, 102, 32]⟩ : ByteArray) ++ bt194.1) ++ bt206.1) ++ bt197.1) ++ (⟨#[32, 116, 104, 101, 110, 32]⟩ : ByteArray)).size + bt209.1.size ≤ 9223372036854775807 then (if ((((((⟨#[105, 102, 32]⟩ : ByteArray) ++ bt194.1) ++ bt206.1) ++ bt197.1) ++ (⟨#[32, 116, 104, 101, 110, 32]⟩ : ByteArray)) ++ bt209.1).size + 6 ≤ 9223372036854775807 then ((spec_l1Cur_wording.f kj2 s0_0 bt209.2.1 bt209.2.2 (wrap64 (a1 - 1))).bind fun bt212 => (if (((((((⟨#[105, 102, 32]⟩ : ByteArray) ++ bt194.1) ++ bt206.1) ++ bt197.1) ++ (⟨#[32, 116, 104, 101, 110, 32]⟩ : ByteArray)) ++ bt209.1) ++ (⟨#[32, 101, 108, 115, 101, 32]⟩ : ByteArray)).size + bt212.1.size ≤ 9223372036854775807 then (some ((((((((⟨#[105, 102, 32]⟩ : ByteArray) ++ bt194.1) ++ bt206.1) ++ bt197.1) ++ (⟨#[32, 116, 104, 101, 110, 32]⟩ : ByteArray)) ++ bt209.1) ++ (⟨#[32, 101, 108, 115, 101, 32]⟩ : ByteArray)) ++ bt212.1, bt212.2.1, bt212.2.2)) else (none))) else (none)) else (none))) else (none)) else (none)) else (none))) else (none)) else (if bt200.1 = 1 then (if 2 + bt194.1.size ≤ 9223372036854775807 then (if ((⟨#[40, 32]⟩ : ByteArray) ++ bt194.1).size + 2 ≤ 9223372036854775807 then (some (((⟨#[40, 32]⟩ : ByteArray) ++ bt194.1) ++ (⟨#[32, 41]⟩ : ByteArray), bt200.2.1, bt200.2.2)) else (none)) else (none)) else (if bt200.1 = 2 then (if 2 + bt194.1.size ≤ 9223372036854775807 then (if ((⟨#[40, 32]⟩ : ByteArray) ++ bt194.1).size + 3 ≤ 9223372036854775807 then ((spec_l1Cur_of.f s0_0 bt200.2.1 bt200.2.2 (([(⟨#[42]⟩ : ByteArray), (⟨#[47]⟩ : ByteArray), (⟨#[45]⟩ : ByteArray)] : List ByteArray))).bind fun bt218 => (if (((⟨#[40, 32]⟩ : ByteArray) ++ bt194.1) ++ (⟨#[32, 41, 32]⟩ : ByteArray)).size + bt218.1.size ≤ 9223372036854775807 then (if ((((⟨#[40, 32]⟩ : ByteArray) ++ bt194.1) ++ (⟨#[32, 41, 32]⟩ : ByteArray)) ++ bt218.1).size + 3 ≤ 9223372036854775807 then (if (((((⟨#[40, 32]⟩ : ByteArray) ++ bt194.1) ++ (⟨#[32, 41, 32]⟩ : ByteArray)) ++ bt218.1) ++ (⟨#[32, 40, 32]⟩ : ByteArray)).size + bt197.1.size ≤ 9223372036854775807 then (if ((((((⟨#[40, 32]⟩ : ByteArray) ++ bt194.1) ++ (⟨#[32, 41, 32]⟩ : ByteArray)) ++ bt218.1) ++ (⟨#[32, 40, 32]⟩ : ByteArray)) ++ bt197.1).size + 2 ≤ 9223372036854775807 then (some (((((((⟨#[40, 32]⟩ : ByteArray) ++ bt194.1) ++ (⟨#[32, 41, 32]⟩ : ByteArray)) ++ bt218.1) ++ (⟨#[32, 40, 32]⟩ : ByteArray)) ++ bt197.1) ++ (⟨#[32, 41]⟩ : ByteArray), bt218.2.1, bt218.2.2)) else (none)) else (none)) else (none)) else (none))) else (none)) else (none)) else (if bt194.1.size + 1 ≤ 9223372036854775807 then ((spec_l1Cur_of.f s0_0 bt200.2.1 bt200.2.2 (([(⟨#[43]⟩ : ByteArray), (⟨#[45]⟩ : ByteArray), (⟨#[42]⟩ : ByteArray), (⟨#[47]⟩ : ByteArray)] : List ByteArray))).bind fun bt224 => (if (bt194.1 ++ (⟨#[32]⟩ : ByteArray)).size + bt224.1.size ≤ 9223372036854775807 then (if ((bt194.1 ++ (⟨#[32]⟩ : ByteArray)) ++ bt224.1).size + 1 ≤ 9223372036854775807 then (if (((bt194.1 ++ (⟨#[32]⟩ : ByteArray)) ++ bt224.1) ++ (⟨#[32]⟩ : ByteArray)).size + bt197.1.size ≤ 9223372036854775807 then (some ((((bt194.1 ++ (⟨#[32]⟩ : ByteArray)) ++ bt224.1) ++ (⟨#[32]⟩ : ByteArray)) ++ bt197.1, bt224.2.1, bt224.2.2)) else (none)) else (none)) else (none))) else (none)))))))) = some (r1, r2, r3) := by rw [if_neg (show ¬ (false = true) by decide)] at H; exact H
    clear H
    have H := H1
    clear H1
    replace H := Option.bind_eq_some_iff.mp H
    obtain ⟨⟨t194, t195, t196⟩, A220, H⟩ := H
    replace H : ((spec_l1Cur_wording.f kj2 s0_0 t195 t196 (wrap64 (a1 - 1))).bind fun bt197 => ((spec_l1Cur_pick.f s0_0 bt197.2.1 bt197.2.2 7).bind fun bt200 => (if bt200.1 = 0 then (if 3 + t194.size ≤ 9223372036854775807 then ((spec_l1Cur_of.f s0_0 bt200.2.1 bt200.2.2 (([(⟨#[32, 60, 32]⟩ : ByteArray), (⟨#[32, 61, 32]⟩ : ByteArray), (⟨#[32, 62, 32]⟩ : ByteArray)] : List ByteArray))).bind fun bt206 => (if ((⟨#[105, 102, 32]⟩ : ByteArray) ++ t194).size + bt206.1.size ≤ 9223372036854775807 then (if (((⟨#[105, 102, 32]⟩ : ByteArray) ++ t194) ++ bt206.1).size + bt197.1.size ≤ 9223372036854775807 then (if ((((⟨#[105, 102, 32]⟩ : ByteArray) ++ t194) ++ bt206.1) ++ bt197.1).size + 6 ≤ 9223372036854775807 then ((spec_l1Cur_wording.f kj2 s0_0 bt206.2.1 bt206.2.2 (wrap64 (a1 - 1))).bind fun bt209 => (if (((((⟨#[105, 102, 32]⟩ : ByteArray) ++ t194) ++ bt206.1) ++ bt197.1) ++ (⟨#[32, 116, 104, 101, 110, 32]⟩ : ByteArray)).size + bt209.1.size ≤ 9223372036854775807 then (if ((((((⟨#[105, 102, 32]⟩ : ByteArray) ++ t194) ++ bt206.1) ++ bt197.1) ++ (⟨#[32, 116, 104, 101, 110, 32]⟩ : ByteArray)) ++ bt209.1).size + 6 ≤ 9223372036854775807 then ((spec_l1Cur_wording.f kj2 s0_0 bt209.2.1 bt209.2.2 (wrap64 (a1 - 1))).bind fun bt212 => (if (((((((⟨#[105, 102, 32]⟩ : ByteArray) ++ t194) ++ bt206.1) ++ bt197.1) ++ (⟨#[32, 116, 104, 101, 110, 32]⟩ : ByteArray)) ++ bt209.1) ++ (⟨#[32, 101, 108, 115, 101, 32]⟩ : ByteArray)).size + bt212.1.size ≤ 9223372036854775807 then (some ((((((((⟨#[105, 102, 32]⟩ : ByteArray) ++ t194) ++ bt206.1) ++ bt197.1) ++ (⟨#[32, 116, 104, 101, 110, 32]⟩ : ByteArray)) ++ bt209.1) ++ (⟨#[32, 101, 108, 115, 101, 32]⟩ : ByteArray)) ++ bt212.1, bt212.2.1, bt212.2.2)) else (none))) else (none)) else (none))) else (none)) else (none)) else (none))) else (none)) else (if bt200.1 = 1 then (if 2 + t194.size ≤ 9223372036854775807 then (if ((⟨#[40, 32]⟩ : ByteArray) ++ t194).size + 2 ≤ 9223372036854775807 then (some (((⟨#[40, 32]⟩ : ByteArray) ++ t194) ++ (⟨#[32, 41]⟩ : ByteArray), bt200.2.1, bt200.2.2)) else (none)) else (none)) else (if bt200.1 = 2 then (if 2 + t194.size ≤ 9223372036854775807 then (if ((⟨#[40, 32]⟩ : ByteArray) ++ t194).size + 3 ≤ 9223372036854775807 then ((spec_l1Cur_of.f s0_0 bt200.2.1 bt200.2.2 (([(⟨#[42]⟩ : ByteArray), (⟨#[47]⟩ : ByteArray), (⟨#[45]⟩ : ByteArray)] : List ByteArray))).bind fun bt218 => (if (((⟨#[40, 32]⟩ : ByteArray) ++ t194) ++ (⟨#[32, 41, 32]⟩ : ByteArray)).size + bt218.1.size ≤ 9223372036854775807 then (if ((((⟨#[40, 32]⟩ : ByteArray) ++ t194) ++ (⟨#[32, 41, 32]⟩ : ByteArray)) ++ bt218.1).size + 3 ≤ 9223372036854775807 then (if (((((⟨#[40, 32]⟩ : ByteArray) ++ t194) ++ (⟨#[32, 41, 32]⟩ : ByteArray)) ++ bt218.1) ++ (⟨#[32, 40, 32]⟩ : ByteArray)).size + bt197.1.size ≤ 9223372036854775807 then (if ((((((⟨#[40, 32]⟩ : ByteArray) ++ t194) ++ (⟨#[32, 41, 32]⟩ : ByteArray)) ++ bt218.1) ++ (⟨#[32, 40, 32]⟩ : ByteArray)) ++ bt197.1).size + 2 ≤ 9223372036854775807 then (some (((((((⟨#[40, 32]⟩ : ByteArray) ++ t194) ++ (⟨#[32, 41, 32]⟩ : ByteArray)) ++ bt218.1) ++ (⟨#[32, 40, 32]⟩ : ByteArray)) ++ bt197.1) ++ (⟨#[32, 41]⟩ : ByteArray), bt218.2.1, bt218.2.2)) else (none)) else (none)) else (none)) else (none))) else (none)) else (none)) else (if t194.size + 1 ≤ 9223372036854775807 then ((spec_l1Cur_of.f s0_0 bt200.2.1 bt200.2.2 (([(⟨#[43]⟩ : ByteArray), (⟨#[45]⟩ : ByteArray), (⟨#[42]⟩ : ByteArray), (⟨#[47]⟩ : ByteArray)] : List ByteArray))).bind fun bt224 => (if (t194 ++ (⟨#[32]⟩ : ByteArray)).size + bt224.1.size ≤ 9223372036854775807 then (if ((t194 ++ (⟨#[32]⟩ : ByteArray)) ++ bt224.1).size + 1 ≤ 9223372036854775807 then (if (((t194 ++ (⟨#[32]⟩ : ByteArray)) ++ bt224.1) ++ (⟨#[32]⟩ : ByteArray)).size + bt197.1.size ≤ 9223372036854775807 then (some ((((t194 ++ (⟨#[32]⟩ : ByteArray)) ++ bt224.1) ++ (⟨#[32]⟩ : ByteArray)) ++ bt197.1, bt224.2.1, bt224.2.2)) else (none)) else (none)) else (none))) else (none))))))) = some (r1, r2, r3) := H
    have A22 := Aside0.mk A220
    clear A220
    replace H := Option.bind_eq_some_iff.mp H
    obtain ⟨⟨t197, t198, t199⟩, A230, H⟩ := H
    replace H : ((spec_l1Cur_pick.f s0_0 t198 t199 7).bind fun bt200 => (if bt200.1 = 0 then (if 3 + t194.size ≤ 9223372036854775807 then ((spec_l1Cur_of.f s0_0 bt200.2.1 bt200.2.2 (([(⟨#[32, 60, 32]⟩ : ByteArray), (⟨#[32, 61, 32]⟩ : ByteArray), (⟨#[32, 62, 32]⟩ : ByteArray)] : List ByteArray))).bind fun bt206 => (if ((⟨#[105, 102, 32]⟩ : ByteArray) ++ t194).size + bt206.1.size ≤ 9223372036854775807 then (if (((⟨#[105, 102, 32]⟩ : ByteArray) ++ t194) ++ bt206.1).size + t197.size ≤ 9223372036854775807 then (if ((((⟨#[105, 102, 32]⟩ : ByteArray) ++ t194) ++ bt206.1) ++ t197).size + 6 ≤ 9223372036854775807 then ((spec_l1Cur_wording.f kj2 s0_0 bt206.2.1 bt206.2.2 (wrap64 (a1 - 1))).bind fun bt209 => (if (((((⟨#[105, 102, 32]⟩ : ByteArray) ++ t194) ++ bt206.1) ++ t197) ++ (⟨#[32, 116, 104, 101, 110, 32]⟩ : ByteArray)).size + bt209.1.size ≤ 9223372036854775807 then (if ((((((⟨#[105, 102, 32]⟩ : ByteArray) ++ t194) ++ bt206.1) ++ t197) ++ (⟨#[32, 116, 104, 101, 110, 32]⟩ : ByteArray)) ++ bt209.1).size + 6 ≤ 9223372036854775807 then ((spec_l1Cur_wording.f kj2 s0_0 bt209.2.1 bt209.2.2 (wrap64 (a1 - 1))).bind fun bt212 => (if (((((((⟨#[105, 102, 32]⟩ : ByteArray) ++ t194) ++ bt206.1) ++ t197) ++ (⟨#[32, 116, 104, 101, 110, 32]⟩ : ByteArray)) ++ bt209.1) ++ (⟨#[32, 101, 108, 115, 101, 32]⟩ : ByteArray)).size + bt212.1.size ≤ 9223372036854775807 then (some ((((((((⟨#[105, 102, 32]⟩ : ByteArray) ++ t194) ++ bt206.1) ++ t197) ++ (⟨#[32, 116, 104, 101, 110, 32]⟩ : ByteArray)) ++ bt209.1) ++ (⟨#[32, 101, 108, 115, 101, 32]⟩ : ByteArray)) ++ bt212.1, bt212.2.1, bt212.2.2)) else (none))) else (none)) else (none))) else (none)) else (none)) else (none))) else (none)) else (if bt200.1 = 1 then (if 2 + t194.size ≤ 9223372036854775807 then (if ((⟨#[40, 32]⟩ : ByteArray) ++ t194).size + 2 ≤ 9223372036854775807 then (some (((⟨#[40, 32]⟩ : ByteArray) ++ t194) ++ (⟨#[32, 41]⟩ : ByteArray), bt200.2.1, bt200.2.2)) else (none)) else (none)) else (if bt200.1 = 2 then (if 2 + t194.size ≤ 9223372036854775807 then (if ((⟨#[40, 32]⟩ : ByteArray) ++ t194).size + 3 ≤ 9223372036854775807 then ((spec_l1Cur_of.f s0_0 bt200.2.1 bt200.2.2 (([(⟨#[42]⟩ : ByteArray), (⟨#[47]⟩ : ByteArray), (⟨#[45]⟩ : ByteArray)] : List ByteArray))).bind fun bt218 => (if (((⟨#[40, 32]⟩ : ByteArray) ++ t194) ++ (⟨#[32, 41, 32]⟩ : ByteArray)).size + bt218.1.size ≤ 9223372036854775807 then (if ((((⟨#[40, 32]⟩ : ByteArray) ++ t194) ++ (⟨#[32, 41, 32]⟩ : ByteArray)) ++ bt218.1).size + 3 ≤ 9223372036854775807 then (if (((((⟨#[40, 32]⟩ : ByteArray) ++ t194) ++ (⟨#[32, 41, 32]⟩ : ByteArray)) ++ bt218.1) ++ (⟨#[32, 40, 32]⟩ : ByteArray)).size + t197.size ≤ 9223372036854775807 then (if ((((((⟨#[40, 32]⟩ : ByteArray) ++ t194) ++ (⟨#[32, 41, 32]⟩ : ByteArray)) ++ bt218.1) ++ (⟨#[32, 40, 32]⟩ : ByteArray)) ++ t197).size + 2 ≤ 9223372036854775807 then (some (((((((⟨#[40, 32]⟩ : ByteArray) ++ t194) ++ (⟨#[32, 41, 32]⟩ : ByteArray)) ++ bt218.1) ++ (⟨#[32, 40, 32]⟩ : ByteArray)) ++ t197) ++ (⟨#[32, 41]⟩ : ByteArray), bt218.2.1, bt218.2.2)) else (none)) else (none)) else (none)) else (none))) else (none)) else (none)) else (if t194.size + 1 ≤ 9223372036854775807 then ((spec_l1Cur_of.f s0_0 bt200.2.1 bt200.2.2 (([(⟨#[43]⟩ : ByteArray), (⟨#[45]⟩ : ByteArray), (⟨#[42]⟩ : ByteArray), (⟨#[47]⟩ : ByteArray)] : List ByteArray))).bind fun bt224 => (if (t194 ++ (⟨#[32]⟩ : ByteArray)).size + bt224.1.size ≤ 9223372036854775807 then (if ((t194 ++ (⟨#[32]⟩ : ByteArray)) ++ bt224.1).size + 1 ≤ 9223372036854775807 then (if (((t194 ++ (⟨#[32]⟩ : ByteArray)) ++ bt224.1) ++ (⟨#[32]⟩ : ByteArray)).size + t197.size ≤ 9223372036854775807 then (some ((((t194 ++ (⟨#[32]⟩ : ByteArray)) ++ bt224.1) ++ (⟨#[32]⟩ : ByteArray)) ++ t197, bt224.2.1, bt224.2.2)) else (none)) else (none)) else (none))) else (none)))))) = some (r1, r2, r3) := H
    have A23 := Aside0.mk A230
    clear A230
    replace H := Option.bind_eq_some_iff.mp H
    obtain ⟨⟨t200, t201, t202⟩, A240, H⟩ := H
    replace H : (if t200 = 0 then (if 3 + t194.size ≤ 9223372036854775807 then ((spec_l1Cur_of.f s0_0 t201 t202 (([(⟨#[32, 60, 32]⟩ : ByteArray), (⟨#[32, 61, 32]⟩ : ByteArray), (⟨#[32, 62, 32]⟩ : ByteArray)] : List ByteArray))).bind fun bt206 => (if ((⟨#[105, 102, 32]⟩ : ByteArray) ++ t194).size + bt206.1.size ≤ 9223372036854775807 then (if (((⟨#[105, 102, 32]⟩ : ByteArray) ++ t194) ++ bt206.1).size + t197.size ≤ 9223372036854775807 then (if ((((⟨#[105, 102, 32]⟩ : ByteArray) ++ t194) ++ bt206.1) ++ t197).size + 6 ≤ 9223372036854775807 then ((spec_l1Cur_wording.f kj2 s0_0 bt206.2.1 bt206.2.2 (wrap64 (a1 - 1))).bind fun bt209 => (if (((((⟨#[105, 102, 32]⟩ : ByteArray) ++ t194) ++ bt206.1) ++ t197) ++ (⟨#[32, 116, 104, 101, 110, 32]⟩ : ByteArray)).size + bt209.1.size ≤ 9223372036854775807 then (if ((((((⟨#[105, 102, 32]⟩ : ByteArray) ++ t194) ++ bt206.1) ++ t197) ++ (⟨#[32, 116, 104, 101, 110, 32]⟩ : ByteArray)) ++ bt209.1).size + 6 ≤ 9223372036854775807 then ((spec_l1Cur_wording.f kj2 s0_0 bt209.2.1 bt209.2.2 (wrap64 (a1 - 1))).bind fun bt212 => (if (((((((⟨#[105, 102, 32]⟩ : ByteArray) ++ t194) ++ bt206.1) ++ t197) ++ (⟨#[32, 116, 104, 101, 110, 32]⟩ : ByteArray)) ++ bt209.1) ++ (⟨#[32, 101, 108, 115, 101, 32]⟩ : ByteArray)).size + bt212.1.size ≤ 9223372036854775807 then (some ((((((((⟨#[105, 102, 32]⟩ : ByteArray) ++ t194) ++ bt206.1) ++ t197) ++ (⟨#[32, 116, 104, 101, 110, 32]⟩ : ByteArray)) ++ bt209.1) ++ (⟨#[32, 101, 108, 115, 101, 32]⟩ : ByteArray)) ++ bt212.1, bt212.2.1, bt212.2.2)) else (none))) else (none)) else (none))) else (none)) else (none)) else (none))) else (none)) else (if t200 = 1 then (if 2 + t194.size ≤ 9223372036854775807 then (if ((⟨#[40, 32]⟩ : ByteArray) ++ t194).size + 2 ≤ 9223372036854775807 then (some (((⟨#[40, 32]⟩ : ByteArray) ++ t194) ++ (⟨#[32, 41]⟩ : ByteArray), t201, t202)) else (none)) else (none)) else (if t200 = 2 then (if 2 + t194.size ≤ 9223372036854775807 then (if ((⟨#[40, 32]⟩ : ByteArray) ++ t194).size + 3 ≤ 9223372036854775807 then ((spec_l1Cur_of.f s0_0 t201 t202 (([(⟨#[42]⟩ : ByteArray), (⟨#[47]⟩ : ByteArray), (⟨#[45]⟩ : ByteArray)] : List ByteArray))).bind fun bt218 => (if (((⟨#[40, 32]⟩ : ByteArray) ++ t194) ++ (⟨#[32, 41, 32]⟩ : ByteArray)).size + bt218.1.size ≤ 9223372036854775807 then (if ((((⟨#[40, 32]⟩ : ByteArray) ++ t194) ++ (⟨#[32, 41, 32]⟩ : ByteArray)) ++ bt218.1).size + 3 ≤ 9223372036854775807 then (if (((((⟨#[40, 32]⟩ : ByteArray) ++ t194) ++ (⟨#[32, 41, 32]⟩ : ByteArray)) ++ bt218.1) ++ (⟨#[32, 40, 32]⟩ : ByteArray)).size + t197.size ≤ 9223372036854775807 then (if ((((((⟨#[40, 32]⟩ : ByteArray) ++ t194) ++ (⟨#[32, 41, 32]⟩ : ByteArray)) ++ bt218.1) ++ (⟨#[32, 40, 32]⟩ : ByteArray)) ++ t197).size + 2 ≤ 9223372036854775807 then (some (((((((⟨#[40, 32]⟩ : ByteArray) ++ t194) ++ (⟨#[32, 41, 32]⟩ : ByteArray)) ++ bt218.1) ++ (⟨#[32, 40, 32]⟩ : ByteArray)) ++ t197) ++ (⟨#[32, 41]⟩ : ByteArray), bt218.2.1, bt218.2.2)) else (none)) else (none)) else (none)) else (none))) else (none)) else (none)) else (if t194.size + 1 ≤ 9223372036854775807 then ((spec_l1Cur_of.f s0_0 t201 t202 (([(⟨#[43]⟩ : ByteArray), (⟨#[45]⟩ : ByteArray), (⟨#[42]⟩ : ByteArray), (⟨#[47]⟩ : ByteArray)] : List ByteArray))).bind fun bt224 => (if (t194 ++ (⟨#[32]⟩ : ByteArray)).size + bt224.1.size ≤ 9223372036854775807 then (if ((t194 ++ (⟨#[32]⟩ : ByteArray)) ++ bt224.1).size + 1 ≤ 9223372036854775807 then (if (((t194 ++ (⟨#[32]⟩ : ByteArray)) ++ bt224.1) ++ (⟨#[32]⟩ : ByteArray)).size + t197.size ≤ 9223372036854775807 then (some ((((t194 ++ (⟨#[32]⟩ : ByteArray)) ++ bt224.1) ++ (⟨#[32]⟩ : ByteArray)) ++ t197, bt224.2.1, bt224.2.2)) else (none)) else (none)) else (none))) else (none))))) = some (r1, r2, r3) := H
    have A24 := Aside0.mk A240
    clear A240
    by_cases c25 : t200 = 0
    ·rw [if_pos c25] at H
     have c25b0 : (t200 == 0) = true := beq_iff_eq.mpr c25
     have c25b1 : (t200 != 0) = false := bne_eq_false_iff_eq.mpr c25
     clear c25
     by_cases c26 : 3 + t194.size ≤ 9223372036854775807
     ·rw [if_pos c26] at H
      have c26b0 := eq_true c26
      have c26b1 : decide (3 + t194.size ≤ 9223372036854775807) = true := decide_eq_true c26
      try have c26b2 : (9223372036854775807 < 3 + t194.size) = False := eq_false (Nat.not_lt.2 c26)
      obtain ⟨y203, hy203⟩ : ∃ y_ : List ByteArray, y_ = (([(⟨#[32, 60, 32]⟩ : ByteArray), (⟨#[32, 61, 32]⟩ : ByteArray), (⟨#[32, 62, 32]⟩ : ByteArray)] : List ByteArray)) := ⟨_, rfl⟩
      replace H : ((spec_l1Cur_of.f s0_0 t201 t202 y203).bind fun bt206 => (if ((⟨#[105, 102, 32]⟩ : ByteArray) ++ t194).size + bt206.1.size ≤ 9223372036854775807 then (if (((⟨#[105, 102, 32]⟩ : ByteArray) ++ t194) ++ bt206.1).size + t197.size ≤ 9223372036854775807 then (if ((((⟨#[105, 102, 32]⟩ : ByteArray) ++ t194) ++ bt206.1) ++ t197).size + 6 ≤ 9223372036854775807 then ((spec_l1Cur_wording.f kj2 s0_0 bt206.2.1 bt206.2.2 (wrap64 (a1 - 1))).bind fun bt209 => (if (((((⟨#[105, 102, 32]⟩ : ByteArray) ++ t194) ++ bt206.1) ++ t197) ++ (⟨#[32, 116, 104, 101, 110, 32]⟩ : ByteArray)).size + bt209.1.size ≤ 9223372036854775807 then (if ((((((⟨#[105, 102, 32]⟩ : ByteArray) ++ t194) ++ bt206.1) ++ t197) ++ (⟨#[32, 116, 104, 101, 110, 32]⟩ : ByteArray)) ++ bt209.1).size + 6 ≤ 9223372036854775807 then ((spec_l1Cur_wording.f kj2 s0_0 bt209.2.1 bt209.2.2 (wrap64 (a1 - 1))).bind fun bt212 => (if (((((((⟨#[105, 102, 32]⟩ : ByteArray) ++ t194) ++ bt206.1) ++ t197) ++ (⟨#[32, 116, 104, 101, 110, 32]⟩ : ByteArray)) ++ bt209.1) ++ (⟨#[32, 101, 108, 115, 101, 32]⟩ : ByteArray)).size + bt212.1.size ≤ 9223372036854775807 then (some ((((((((⟨#[105, 102, 32]⟩ : ByteArray) ++ t194) ++ bt206.1) ++ t197) ++ (⟨#[32, 116, 104, 101, 110, 32]⟩ : ByteArray)) ++ bt209.1) ++ (⟨#[32, 101, 108, 115, 101, 32]⟩ : ByteArray)) ++ bt212.1, bt212.2.1, bt212.2.2)) else (none))) else (none)) else (none))) else (none)) else (none)) else (none))) = some (r1, r2, r3) := by first | (rw [hy203]; with_reducible exact H) | (have H2_ := (Option.bind_some _ _).symm.trans H; rw [hy203]; with_reducible exact H2_) | (have H2_ := (Option.bind_some _ _).symm.trans H; with_reducible exact H2_) | with_reducible exact H | (rw [hy203]; exact H) | exact H
      have Ny203 := Aside0.mk hy203
      clear hy203
      replace H := Option.bind_eq_some_iff.mp H
      obtain ⟨⟨t206, t207, t208⟩, A270, H⟩ := H
      replace H : (if ((⟨#[105, 102, 32]⟩ : ByteArray) ++ t194).size + t206.size ≤ 9223372036854775807 then (if (((⟨#[105, 102, 32]⟩ : ByteArray) ++ t194) ++ t206).size + t197.size ≤ 9223372036854775807 then (if ((((⟨#[105, 102, 32]⟩ : ByteArray) ++ t194) ++ t206) ++ t197).size + 6 ≤ 9223372036854775807 then ((spec_l1Cur_wording.f kj2 s0_0 t207 t208 (wrap64 (a1 - 1))).bind fun bt209 => (if (((((⟨#[105, 102, 32]⟩ : ByteArray) ++ t194) ++ t206) ++ t197) ++ (⟨#[32, 116, 104, 101, 110, 32]⟩ : ByteArray)).size + bt209.1.size ≤ 9223372036854775807 then (if ((((((⟨#[105, 102, 32]⟩ : ByteArray) ++ t194) ++ t206) ++ t197) ++ (⟨#[32, 116, 104, 101, 110, 32]⟩ : ByteArray)) ++ bt209.1).size + 6 ≤ 9223372036854775807 then ((spec_l1Cur_wording.f kj2 s0_0 bt209.2.1 bt209.2.2 (wrap64 (a1 - 1))).bind fun bt212 => (if (((((((⟨#[105, 102, 32]⟩ : ByteArray) ++ t194) ++ t206) ++ t197) ++ (⟨#[32, 116, 104, 101, 110, 32]⟩ : ByteArray)) ++ bt209.1) ++ (⟨#[32, 101, 108, 115, 101, 32]⟩ : ByteArray)).size + bt212.1.size ≤ 9223372036854775807 then (some ((((((((⟨#[105, 102, 32]⟩ : ByteArray) ++ t194) ++ t206) ++ t197) ++ (⟨#[32, 116, 104, 101, 110, 32]⟩ : ByteArray)) ++ bt209.1) ++ (⟨#[32, 101, 108, 115, 101, 32]⟩ : ByteArray)) ++ bt212.1, bt212.2.1, bt212.2.2)) else (none))) else (none)) else (none))) else (none)) else (none)) else (none)) = some (r1, r2, r3) := H
      have A27 := Aside0.mk A270
      clear A270
      by_cases c28 : ((⟨#[105, 102, 32]⟩ : ByteArray) ++ t194).size + t206.size ≤ 9223372036854775807
      ·rw [if_pos c28] at H
       have c28b0 := eq_true c28
       have c28b1 : decide (((⟨#[105, 102, 32]⟩ : ByteArray) ++ t194).size + t206.size ≤ 9223372036854775807) = true := decide_eq_true c28
       try have c28b2 : (9223372036854775807 < ((⟨#[105, 102, 32]⟩ : ByteArray) ++ t194).size + t206.size) = False := eq_false (Nat.not_lt.2 c28)
       have c28b3 : (9223372036854775807 < 3 + t194.size + t206.size) = False := eq_false (Nat.not_lt.2 (by have h_ := c28; simp only [ByteArray.size_append] at h_; exact h_))
       by_cases c29 : (((⟨#[105, 102, 32]⟩ : ByteArray) ++ t194) ++ t206).size + t197.size ≤ 9223372036854775807
       ·rw [if_pos c29] at H
        have c29b0 := eq_true c29
        have c29b1 : decide ((((⟨#[105, 102, 32]⟩ : ByteArray) ++ t194) ++ t206).size + t197.size ≤ 9223372036854775807) = true := decide_eq_true c29
        try have c29b2 : (9223372036854775807 < (((⟨#[105, 102, 32]⟩ : ByteArray) ++ t194) ++ t206).size + t197.size) = False := eq_false (Nat.not_lt.2 c29)
        have c29b3 : (9223372036854775807 < 3 + t194.size + t206.size + t197.size) = False := eq_false (Nat.not_lt.2 (by have h_ := c29; simp only [ByteArray.size_append] at h_; exact h_))
        by_cases c30 : ((((⟨#[105, 102, 32]⟩ : ByteArray) ++ t194) ++ t206) ++ t197).size + 6 ≤ 9223372036854775807
        ·rw [if_pos c30] at H
         have c30b0 := eq_true c30
         have c30b1 : decide (((((⟨#[105, 102, 32]⟩ : ByteArray) ++ t194) ++ t206) ++ t197).size + 6 ≤ 9223372036854775807) = true := decide_eq_true c30
         try have c30b2 : (9223372036854775807 < ((((⟨#[105, 102, 32]⟩ : ByteArray) ++ t194) ++ t206) ++ t197).size + 6) = False := eq_false (Nat.not_lt.2 c30)
         have c30b3 : (9223372036854775807 < 3 + t194.size + t206.size + t197.size + 6) = False := eq_false (Nat.not_lt.2 (by have h_ := c30; simp only [ByteArray.size_append] at h_; exact h_))
         replace H := Option.bind_eq_some_iff.mp H
         obtain ⟨⟨t209, t210, t211⟩, A310, H⟩ := H
         replace H : (if (((((⟨#[105, 102, 32]⟩ : ByteArray) ++ t194) ++ t206) ++ t197) ++ (⟨#[32, 116, 104, 101, 110, 32]⟩ : ByteArray)).size + t209.size ≤ 9223372036854775807 then (if ((((((⟨#[105, 102, 32]⟩ : ByteArray) ++ t194) ++ t206) ++ t197) ++ (⟨#[32, 116, 104, 101, 110, 32]⟩ : ByteArray)) ++ t209).size + 6 ≤ 9223372036854775807 then ((spec_l1Cur_wording.f kj2 s0_0 t210 t211 (wrap64 (a1 - 1))).bind fun bt212 => (if (((((((⟨#[105, 102, 32]⟩ : ByteArray) ++ t194) ++ t206) ++ t197) ++ (⟨#[32, 116, 104, 101, 110, 32]⟩ : ByteArray)) ++ t209) ++ (⟨#[32, 101, 108, 115, 101, 32]⟩ : ByteArray)).size + bt212.1.size ≤ 9223372036854775807 then (some ((((((((⟨#[105, 102, 32]⟩ : ByteArray) ++ t194) ++ t206) ++ t197) ++ (⟨#[32, 116, 104, 101, 110, 32]⟩ : ByteArray)) ++ t209) ++ (⟨#[32, 101, 108, 115, 101, 32]⟩ : ByteArray)) ++ bt212.1, bt212.2.1, bt212.2.2)) else (none))) else (none)) else (none)) = some (r1, r2, r3) := H
         have A31 := Aside0.mk A310
         clear A310
         by_cases c32 : (((((⟨#[105, 102, 32]⟩ : ByteArray) ++ t194) ++ t206) ++ t197) ++ (⟨#[32, 116, 104, 101, 110, 32]⟩ : ByteArray)).size + t209.size ≤ 9223372036854775807
         ·rw [if_pos c32] at H
          have c32b0 := eq_true c32
          have c32b1 : decide ((((((⟨#[105, 102, 32]⟩ : ByteArray) ++ t194) ++ t206) ++ t197) ++ (⟨#[32, 116, 104, 101, 110, 32]⟩ : ByteArray)).size + t209.size ≤ 9223372036854775807) = true := decide_eq_true c32
          try have c32b2 : (9223372036854775807 < (((((⟨#[105, 102, 32]⟩ : ByteArray) ++ t194) ++ t206) ++ t197) ++ (⟨#[32, 116, 104, 101, 110, 32]⟩ : ByteArray)).size + t209.size) = False := eq_false (Nat.not_lt.2 c32)
          have c32b3 : (9223372036854775807 < 3 + t194.size + t206.size + t197.size + 6 + t209.size) = False := eq_false (Nat.not_lt.2 (by have h_ := c32; simp only [ByteArray.size_append] at h_; exact h_))
          by_cases c33 : ((((((⟨#[105, 102, 32]⟩ : ByteArray) ++ t194) ++ t206) ++ t197) ++ (⟨#[32, 116, 104, 101, 110, 32]⟩ : ByteArray)) ++ t209).size + 6 ≤ 9223372036854775807
          ·rw [if_pos c33] at H
           have c33b0 := eq_true c33
           have c33b1 : decide (((((((⟨#[105, 102, 32]⟩ : ByteArray) ++ t194) ++ t206) ++ t197) ++ (⟨#[32, 116, 104, 101, 110, 32]⟩ : ByteArray)) ++ t209).size + 6 ≤ 9223372036854775807) = true := decide_eq_true c33
           try have c33b2 : (9223372036854775807 < ((((((⟨#[105, 102, 32]⟩ : ByteArray) ++ t194) ++ t206) ++ t197) ++ (⟨#[32, 116, 104, 101, 110, 32]⟩ : ByteArray)) ++ t209).size + 6) = False := eq_false (Nat.not_lt.2 c33)
           have c33b3 : (9223372036854775807 < 3 + t194.size + t206.size + t197.size + 6 + t209.size + 6) = False := eq_false (Nat.not_lt.2 (by have h_ := c33; simp only [ByteArray.size_append] at h_; exact h_))
           replace H := Option.bind_eq_some_iff.mp H
           obtain ⟨⟨t212, t213, t214⟩, A340, H⟩ := H
           replace H : (if (((((((⟨#[105, 102, 32]⟩ : ByteArray) ++ t194) ++ t206) ++ t197) ++ (⟨#[32, 116, 104, 101, 110, 32]⟩ : ByteArray)) ++ t209) ++ (⟨#[32, 101, 108, 115, 101, 32]⟩ : ByteArray)).size + t212.size ≤ 9223372036854775807 then (some ((((((((⟨#[105, 102, 32]⟩ : ByteArray) ++ t194) ++ t206) ++ t197) ++ (⟨#[32, 116, 104, 101, 110, 32]⟩ : ByteArray)) ++ t209) ++ (⟨#[32, 101, 108, 115, 101, 32]⟩ : ByteArray)) ++ t212, t213, t214)) else (none)) = some (r1, r2, r3) := H
           have A34 := Aside0.mk A340
           clear A340
           by_cases c35 : (((((((⟨#[105, 102, 32]⟩ : ByteArray) ++ t194) ++ t206) ++ t197) ++ (⟨#[32, 116, 104, 101, 110, 32]⟩ : ByteArray)) ++ t209) ++ (⟨#[32, 101, 108, 115, 101, 32]⟩ : ByteArray)).size + t212.size ≤ 9223372036854775807
           ·rw [if_pos c35] at H
            have c35b0 := eq_true c35
            have c35b1 : decide ((((((((⟨#[105, 102, 32]⟩ : ByteArray) ++ t194) ++ t206) ++ t197) ++ (⟨#[32, 116, 104, 101, 110, 32]⟩ : ByteArray)) ++ t209) ++ (⟨#[32, 101, 108, 115, 101, 32]⟩ : ByteArray)).size + t212.size ≤ 9223372036854775807) = true := decide_eq_true c35
            try have c35b2 : (9223372036854775807 < (((((((⟨#[105, 102, 32]⟩ : ByteArray) ++ t194) ++ t206) ++ t197) ++ (⟨#[32, 116, 104, 101, 110, 32]⟩ : ByteArray)) ++ t209) ++ (⟨#[32, 101, 108, 115, 101, 32]⟩ : ByteArray)).size + t212.size) = False := eq_false (Nat.not_lt.2 c35)
            have c35b3 : (9223372036854775807 < 3 + t194.size + t206.size + t197.size + 6 + t209.size + 6 + t212.size) = False := eq_false (Nat.not_lt.2 (by have h_ := c35; simp only [ByteArray.size_append] at h_; exact h_))
            simp only [Option.some.injEq, Prod.mk.injEq] at H
            obtain ⟨rfl, rfl, rfl⟩ := H
            go_wp2_with (first | ((with_reducible refine gate_callee (f := 42) rfl ?_); refine gl_ (some 24) Try.func42 #[.pointer (some ⟨g, 0, none⟩), .int .i64 (wrap64 (a1 - 1))] rfl rfl rfl ?_; (with_reducible refine (ih kj2 (by have := HJ2.out; omega) g s0_0 x1001_2 x1002_2 (wrap64 (a1 - 1)) t194 t195 t196 w0 _ ?side1 ?side2 A22.out).mono ?_); (case side1 => exact IsS40.q HI0); (case side2 => exact hbI_ HB (IsS40.ge HI0.out)); rintro e w36 ⟨rfl, hi, hb, hk⟩; refine ⟨_, rfl, ?_⟩; replace HK := Aside0.mk (KeepBut.trans (hk_ HK) hk (.inl rfl)); replace HB := Aside0.mk (hb); replace HI0 := Aside0.mk (hi); (try clear hb); (try clear hb2); (try clear hk); (try clear hi)) | ((with_reducible refine gate_callee (f := 42) rfl ?_); refine gl_ (some 28) Try.func42 #[.pointer (some ⟨g, 0, none⟩), .int .i64 (wrap64 (a1 - 1))] rfl rfl rfl ?_; (with_reducible refine (ih kj2 (by have := HJ2.out; omega) g s0_0 t195 t196 (wrap64 (a1 - 1)) t197 t198 t199 w0 _ ?side1 ?side2 A23.out).mono ?_); (case side1 => exact IsS40.q HI0); (case side2 => exact hbI_ HB (IsS40.ge HI0.out)); rintro e w37 ⟨rfl, hi, hb, hk⟩; refine ⟨_, rfl, ?_⟩; replace HK := Aside0.mk (KeepBut.trans (hk_ HK) hk (.inl rfl)); replace HB := Aside0.mk (hb); replace HI0 := Aside0.mk (hi); (try clear hb); (try clear hb2); (try clear hk); (try clear hi)) | ((with_reducible refine gate_callee (f := 24) rfl ?_); refine gl_ (some 30) Try.func24 #[.pointer (some ⟨g, 0, none⟩), .int .i64 7] rfl rfl rfl ?_; (with_reducible refine (spec_l1Cur_pick.calls g s0_0 t198 t199 7 t200 t201 t202 w0 _ ?side1 ?side2 A24.out).mono ?_); (case side1 => exact IsS40.q HI0); (case side2 => exact hbI_ HB (IsS40.ge HI0.out)); rintro e w38 ⟨rfl, hi, hb, hk⟩; refine ⟨_, rfl, ?_⟩; replace HK := Aside0.mk (KeepBut.trans (hk_ HK) hk (.inl rfl)); replace HB := Aside0.mk (hb); replace HI0 := Aside0.mk (hi); (try clear hb); (try clear hb2); (try clear hk); (try clear hi)) | ((with_reducible refine gate_dst (N := 36) rfl ?_); refine Kd.R_lit Kd.string _ 9 ?hg (N := 36) ?hd (xs := ([(⟨#[32, 60, 32]⟩ : ByteArray), (⟨#[32, 61, 32]⟩ : ByteArray), (⟨#[32, 62, 32]⟩ : ByteArray)] : List ByteArray)) (inner := [.string (⟨#[32, 60, 32]⟩ : ByteArray), .string (⟨#[32, 61, 32]⟩ : ByteArray), .string (⟨#[32, 62, 32]⟩ : ByteArray)]) (ok := fun _ => True) (okp := fun _ => True) ?hr ?hp (fun _ hk => hk) trivial (Below.refl _ _) (Nat.le_refl _) (by simp) ?_; (case hd => rfl); (case hg => rfl); (case hr => first | (go_simp; done) | (go_simp; rfl)); (case hp => exact (Reps.one (show Kd.M Kd.string _ _ _ (⟨#[32, 60, 32]⟩ : ByteArray) [.string (⟨#[32, 60, 32]⟩ : ByteArray)] from rfl) (Reps.one (show Kd.M Kd.string _ _ _ (⟨#[32, 61, 32]⟩ : ByteArray) [.string (⟨#[32, 61, 32]⟩ : ByteArray)] from rfl) (Reps.one (show Kd.M Kd.string _ _ _ (⟨#[32, 62, 32]⟩ : ByteArray) [.string (⟨#[32, 62, 32]⟩ : ByteArray)] from rfl) (Reps.none _ _))))); intro v204 w39 ho40 hb hg_ hnew_; clear hg_ hnew_; (first | rw [← Ny203.out] at ho40 | (simp only [Int.reduceToNat] at ho40; rw [← Ny203.out] at ho40)); have HO205 := Aside0.mk (Kd.R_lower ho40 (keep_size (hk_ HK))); replace HK := hkb_ HK hb; replace HB := Aside0.mk (below_step (hbI_ HB (IsS40.ge HI0.out)) hb); replace HI0 := IsS40.b HI0 hb; clear hb ho40; obtain ⟨Ao41, co41, eo41⟩ := Kd.R_slice HO205.out; subst eo41) | ((with_reducible refine gate_callee (f := 50) rfl ?_); refine gl_ (some 37) Try.func50 #[.pointer (some ⟨g, 0, none⟩), .slice Ao41 y203.length co41] rfl rfl rfl ?_; (with_reducible refine (spec_l1Cur_of.calls g s0_0 t201 t202 _ _ y203 t206 t207 t208 w0 _ ?side1 ?side2 ?side3 ?side4 ?side5 A27.out).mono ?_); (case side1 => exact IsS40.q HI0); (case side2 => exact hbI_ HB (IsS40.ge HI0.out)); (case side3 => exact Kd.C_o HO205); (case side4 => exact (Kd.R_reads' HO205.out).2.1); (case side5 => exact far_slice (IsS40.own_ne HI0.out HO205.out (by decide))); rintro e w42 ⟨rfl, hi, hb, hk⟩; refine ⟨_, rfl, ?_⟩; have n0_ := IsS40.rk HI0 HO205 hk; have n1_ := Aside0.mk (KeepBut.trans (hk_ HK) hk (.inl rfl)); have n2_ := Aside0.mk (hb); have n3_ := Aside0.mk (hi); clear HO205 HK HB HI0; have HO205 := n0_; have HK := n1_; have HB := n2_; have HI0 := n3_; clear n0_ n1_ n2_ n3_; (try clear hb); (try clear hb2); (try clear hk); (try clear hi); try clear HO205) | ((with_reducible refine gate_callee (f := 42) rfl ?_); refine gl_ (some 45) Try.func42 #[.pointer (some ⟨g, 0, none⟩), .int .i64 (wrap64 (a1 - 1))] rfl rfl rfl ?_; (with_reducible refine (ih kj2 (by have := HJ2.out; omega) g s0_0 t207 t208 (wrap64 (a1 - 1)) t209 t210 t211 w0 _ ?side1 ?side2 A31.out).mono ?_); (case side1 => exact IsS40.q HI0); (case side2 => exact hbI_ HB (IsS40.ge HI0.out)); rintro e w43 ⟨rfl, hi, hb, hk⟩; refine ⟨_, rfl, ?_⟩; replace HK := Aside0.mk (KeepBut.trans (hk_ HK) hk (.inl rfl)); replace HB := Aside0.mk (hb); replace HI0 := Aside0.mk (hi); (try clear hb); (try clear hb2); (try clear hk); (try clear hi)) | ((with_reducible refine gate_callee (f := 42) rfl ?_); refine gl_ (some 51) Try.func42 #[.pointer (some ⟨g, 0, none⟩), .int .i64 (wrap64 (a1 - 1))] rfl rfl rfl ?_; (with_reducible refine (ih kj2 (by have := HJ2.out; omega) g s0_0 t210 t211 (wrap64 (a1 - 1)) t212 t213 t214 w0 _ ?side1 ?side2 A34.out).mono ?_); (case side1 => exact IsS40.q HI0); (case side2 => exact hbI_ HB (IsS40.ge HI0.out)); rintro e w44 ⟨rfl, hi, hb, hk⟩; refine ⟨_, rfl, ?_⟩; replace HK := Aside0.mk (KeepBut.trans (hk_ HK) hk (.inl rfl)); replace HB := Aside0.mk (hb); replace HI0 := Aside0.mk (hi); (try clear hb); (try clear hb2); (try clear hk); (try clear hi)))
            go_ret
            exact ⟨by first | rfl | (simp [errW_none, errW_some] <;> rfl) | (simp [*, errW_none, errW_some] <;> rfl), IsS40.q HI0, hbI_ HB (IsS40.ge HI0.out), hk_ HK⟩
           ·rw [if_neg c35] at H
            exact absurd H (by simp)
          ·rw [if_neg c33] at H
           exact absurd H (by simp)
         ·rw [if_neg c32] at H
          exact absurd H (by simp)
        ·rw [if_neg c30] at H
         exact absurd H (by simp)
       ·rw [if_neg c29] at H
        exact absurd H (by simp)
      ·rw [if_neg c28] at H
       exact absurd H (by simp)
     ·rw [if_neg c26] at H
      exact absurd H (by simp)
    ·rw [if_neg c25] at H
     have c25b0 : (t200 == 0) = false := beq_eq_false_iff_ne.mpr c25
     have c25b1 : (t200 != 0) = true := bne_iff_ne.mpr c25
     by_cases c45 : t200 = 1
     ·rw [if_pos c45] at H
      have c45b0 : (t200 == 1) = true := beq_iff_eq.mpr c45
      have c45b1 : (t200 != 1) = false := bne_eq_false_iff_eq.mpr c45
      clear c45
      by_cases c46 : 2 + t194.size ≤ 9223372036854775807
      ·rw [if_pos c46] at H
       have c46b0 := eq_true c46
       have c46b1 : decide (2 + t194.size ≤ 9223372036854775807) = true := decide_eq_true c46
       try have c46b2 : (9223372036854775807 < 2 + t194.size) = False := eq_false (Nat.not_lt.2 c46)
       by_cases c47 : ((⟨#[40, 32]⟩ : ByteArray) ++ t194).size + 2 ≤ 9223372036854775807
       ·rw [if_pos c47] at H
        have c47b0 := eq_true c47
        have c47b1 : decide (((⟨#[40, 32]⟩ : ByteArray) ++ t194).size + 2 ≤ 9223372036854775807) = true := decide_eq_true c47
        try have c47b2 : (9223372036854775807 < ((⟨#[40, 32]⟩ : ByteArray) ++ t194).size + 2) = False := eq_false (Nat.not_lt.2 c47)
        have c47b3 : (9223372036854775807 < 2 + t194.size + 2) = False := eq_false (Nat.not_lt.2 (by have h_ := c47; simp only [ByteArray.size_append] at h_; exact h_))
        simp only [Option.some.injEq, Prod.mk.injEq] at H
        obtain ⟨rfl, rfl, rfl⟩ := H
        go_wp2_with (first | ((with_reducible refine gate_callee (f := 42) rfl ?_); refine gl_ (some 24) Try.func42 #[.pointer (some ⟨g, 0, none⟩), .int .i64 (wrap64 (a1 - 1))] rfl rfl rfl ?_; (with_reducible refine (ih kj2 (by have := HJ2.out; omega) g s0_0 x1001_2 x1002_2 (wrap64 (a1 - 1)) t194 t195 t196 w0 _ ?side1 ?side2 A22.out).mono ?_); (case side1 => exact IsS40.q HI0); (case side2 => exact hbI_ HB (IsS40.ge HI0.out)); rintro e w48 ⟨rfl, hi, hb, hk⟩; refine ⟨_, rfl, ?_⟩; replace HK := Aside0.mk (KeepBut.trans (hk_ HK) hk (.inl rfl)); replace HB := Aside0.mk (hb); replace HI0 := Aside0.mk (hi); (try clear hb); (try clear hb2); (try clear hk); (try clear hi)) | ((with_reducible refine gate_callee (f := 42) rfl ?_); refine gl_ (some 28) Try.func42 #[.pointer (some ⟨g, 0, none⟩), .int .i64 (wrap64 (a1 - 1))] rfl rfl rfl ?_; (with_reducible refine (ih kj2 (by have := HJ2.out; omega) g s0_0 t195 t196 (wrap64 (a1 - 1)) t197 t198 t199 w0 _ ?side1 ?side2 A23.out).mono ?_); (case side1 => exact IsS40.q HI0); (case side2 => exact hbI_ HB (IsS40.ge HI0.out)); rintro e w49 ⟨rfl, hi, hb, hk⟩; refine ⟨_, rfl, ?_⟩; replace HK := Aside0.mk (KeepBut.trans (hk_ HK) hk (.inl rfl)); replace HB := Aside0.mk (hb); replace HI0 := Aside0.mk (hi); (try clear hb); (try clear hb2); (try clear hk); (try clear hi)) | ((with_reducible refine gate_callee (f := 24) rfl ?_); refine gl_ (some 30) Try.func24 #[.pointer (some ⟨g, 0, none⟩), .int .i64 7] rfl rfl rfl ?_; (with_reducible refine (spec_l1Cur_pick.calls g s0_0 t198 t199 7 t200 t201 t202 w0 _ ?side1 ?side2 A24.out).mono ?_); (case side1 => exact IsS40.q HI0); (case side2 => exact hbI_ HB (IsS40.ge HI0.out)); rintro e w50 ⟨rfl, hi, hb, hk⟩; refine ⟨_, rfl, ?_⟩; replace HK := Aside0.mk (KeepBut.trans (hk_ HK) hk (.inl rfl)); replace HB := Aside0.mk (hb); replace HI0 := Aside0.mk (hi); (try clear hb); (try clear hb2); (try clear hk); (try clear hi)))
        go_ret
        exact ⟨by first | rfl | (simp [errW_none, errW_some] <;> rfl) | (simp [*, errW_none, errW_some] <;> rfl), IsS40.q HI0, hbI_ HB (IsS40.ge HI0.out), hk_ HK⟩
       ·rw [if_neg c47] at H
        exact absurd H (by simp)
      ·rw [if_neg c46] at H
       exact absurd H (by simp)
     ·rw [if_neg c45] at H
      have c45b0 : (t200 == 1) = false := beq_eq_false_iff_ne.mpr c45
      have c45b1 : (t200 != 1) = true := bne_iff_ne.mpr c45
      by_cases c51 : t200 = 2
      ·rw [if_pos c51] at H
       have c51b0 : (t200 == 2) = true := beq_iff_eq.mpr c51
       have c51b1 : (t200 != 2) = false := bne_eq_false_iff_eq.mpr c51
       clear c51
       by_cases c52 : 2 + t194.size ≤ 9223372036854775807
       ·rw [if_pos c52] at H
        have c52b0 := eq_true c52
        have c52b1 : decide (2 + t194.size ≤ 9223372036854775807) = true := decide_eq_true c52
        try have c52b2 : (9223372036854775807 < 2 + t194.size) = False := eq_false (Nat.not_lt.2 c52)
        by_cases c53 : ((⟨#[40, 32]⟩ : ByteArray) ++ t194).size + 3 ≤ 9223372036854775807
        ·rw [if_pos c53] at H
         have c53b0 := eq_true c53
         have c53b1 : decide (((⟨#[40, 32]⟩ : ByteArray) ++ t194).size + 3 ≤ 9223372036854775807) = true := decide_eq_true c53
         try have c53b2 : (9223372036854775807 < ((⟨#[40, 32]⟩ : ByteArray) ++ t194).size + 3) = False := eq_false (Nat.not_lt.2 c53)
         have c53b3 : (9223372036854775807 < 2 + t194.size + 3) = False := eq_false (Nat.not_lt.2 (by have h_ := c53; simp only [ByteArray.size_append] at h_; exact h_))
         obtain ⟨y215, hy215⟩ : ∃ y_ : List ByteArray, y_ = (([(⟨#[42]⟩ : ByteArray), (⟨#[47]⟩ : ByteArray), (⟨#[45]⟩ : ByteArray)] : List ByteArray)) := ⟨_, rfl⟩
         replace H : ((spec_l1Cur_of.f s0_0 t201 t202 y215).bind fun bt218 => (if (((⟨#[40, 32]⟩ : ByteArray) ++ t194) ++ (⟨#[32, 41, 32]⟩ : ByteArray)).size + bt218.1.size ≤ 9223372036854775807 then (if ((((⟨#[40, 32]⟩ : ByteArray) ++ t194) ++ (⟨#[32, 41, 32]⟩ : ByteArray)) ++ bt218.1).size + 3 ≤ 9223372036854775807 then (if (((((⟨#[40, 32]⟩ : ByteArray) ++ t194) ++ (⟨#[32, 41, 32]⟩ : ByteArray)) ++ bt218.1) ++ (⟨#[32, 40, 32]⟩ : ByteArray)).size + t197.size ≤ 9223372036854775807 then (if ((((((⟨#[40, 32]⟩ : ByteArray) ++ t194) ++ (⟨#[32, 41, 32]⟩ : ByteArray)) ++ bt218.1) ++ (⟨#[32, 40, 32]⟩ : ByteArray)) ++ t197).size + 2 ≤ 9223372036854775807 then (some (((((((⟨#[40, 32]⟩ : ByteArray) ++ t194) ++ (⟨#[32, 41, 32]⟩ : ByteArray)) ++ bt218.1) ++ (⟨#[32, 40, 32]⟩ : ByteArray)) ++ t197) ++ (⟨#[32, 41]⟩ : ByteArray), bt218.2.1, bt218.2.2)) else (none)) else (none)) else (none)) else (none))) = some (r1, r2, r3) := by first | (rw [hy215]; with_reducible exact H) | (have H2_ := (Option.bind_some _ _).symm.trans H; rw [hy215]; with_reducible exact H2_) | (have H2_ := (Option.bind_some _ _).symm.trans H; with_reducible exact H2_) | with_reducible exact H | (rw [hy215]; exact H) | exact H
         have Ny215 := Aside0.mk hy215
         clear hy215
         replace H := Option.bind_eq_some_iff.mp H
         obtain ⟨⟨t218, t219, t220⟩, A540, H⟩ := H
         replace H : (if (((⟨#[40, 32]⟩ : ByteArray) ++ t194) ++ (⟨#[32, 41, 32]⟩ : ByteArray)).size + t218.size ≤ 9223372036854775807 then (if ((((⟨#[40, 32]⟩ : ByteArray) ++ t194) ++ (⟨#[32, 41, 32]⟩ : ByteArray)) ++ t218).size + 3 ≤ 9223372036854775807 then (if (((((⟨#[40, 32]⟩ : ByteArray) ++ t194) ++ (⟨#[32, 41, 32]⟩ : ByteArray)) ++ t218) ++ (⟨#[32, 40, 32]⟩ : ByteArray)).size + t197.size ≤ 9223372036854775807 then (if ((((((⟨#[40, 32]⟩ : ByteArray) ++ t194) ++ (⟨#[32, 41, 32]⟩ : ByteArray)) ++ t218) ++ (⟨#[32, 40, 32]⟩ : ByteArray)) ++ t197).size + 2 ≤ 9223372036854775807 then (some (((((((⟨#[40, 32]⟩ : ByteArray) ++ t194) ++ (⟨#[32, 41, 32]⟩ : ByteArray)) ++ t218) ++ (⟨#[32, 40, 32]⟩ : ByteArray)) ++ t197) ++ (⟨#[32, 41]⟩ : ByteArray), t219, t220)) else (none)) else (none)) else (none)) else (none)) = some (r1, r2, r3) := H
         have A54 := Aside0.mk A540
         clear A540
         by_cases c55 : (((⟨#[40, 32]⟩ : ByteArray) ++ t194) ++ (⟨#[32, 41, 32]⟩ : ByteArray)).size + t218.size ≤ 9223372036854775807
         ·rw [if_pos c55] at H
          have c55b0 := eq_true c55
          have c55b1 : decide ((((⟨#[40, 32]⟩ : ByteArray) ++ t194) ++ (⟨#[32, 41, 32]⟩ : ByteArray)).size + t218.size ≤ 9223372036854775807) = true := decide_eq_true c55
          try have c55b2 : (9223372036854775807 < (((⟨#[40, 32]⟩ : ByteArray) ++ t194) ++ (⟨#[32, 41, 32]⟩ : ByteArray)).size + t218.size) = False := eq_false (Nat.not_lt.2 c55)
          have c55b3 : (9223372036854775807 < 2 + t194.size + 3 + t218.size) = False := eq_false (Nat.not_lt.2 (by have h_ := c55; simp only [ByteArray.size_append] at h_; exact h_))
          by_cases c56 : ((((⟨#[40, 32]⟩ : ByteArray) ++ t194) ++ (⟨#[32, 41, 32]⟩ : ByteArray)) ++ t218).size + 3 ≤ 9223372036854775807
          ·rw [if_pos c56] at H
           have c56b0 := eq_true c56
           have c56b1 : decide (((((⟨#[40, 32]⟩ : ByteArray) ++ t194) ++ (⟨#[32, 41, 32]⟩ : ByteArray)) ++ t218).size + 3 ≤ 9223372036854775807) = true := decide_eq_true c56
           try have c56b2 : (9223372036854775807 < ((((⟨#[40, 32]⟩ : ByteArray) ++ t194) ++ (⟨#[32, 41, 32]⟩ : ByteArray)) ++ t218).size + 3) = False := eq_false (Nat.not_lt.2 c56)
           have c56b3 : (9223372036854775807 < 2 + t194.size + 3 + t218.size + 3) = False := eq_false (Nat.not_lt.2 (by have h_ := c56; simp only [ByteArray.size_append] at h_; exact h_))
           by_cases c57 : (((((⟨#[40, 32]⟩ : ByteArray) ++ t194) ++ (⟨#[32, 41, 32]⟩ : ByteArray)) ++ t218) ++ (⟨#[32, 40, 32]⟩ : ByteArray)).size + t197.size ≤ 9223372036854775807
           ·rw [if_pos c57] at H
            have c57b0 := eq_true c57
            have c57b1 : decide ((((((⟨#[40, 32]⟩ : ByteArray) ++ t194) ++ (⟨#[32, 41, 32]⟩ : ByteArray)) ++ t218) ++ (⟨#[32, 40, 32]⟩ : ByteArray)).size + t197.size ≤ 9223372036854775807) = true := decide_eq_true c57
            try have c57b2 : (9223372036854775807 < (((((⟨#[40, 32]⟩ : ByteArray) ++ t194) ++ (⟨#[32, 41, 32]⟩ : ByteArray)) ++ t218) ++ (⟨#[32, 40, 32]⟩ : ByteArray)).size + t197.size) = False := eq_false (Nat.not_lt.2 c57)
            have c57b3 : (9223372036854775807 < 2 + t194.size + 3 + t218.size + 3 + t197.size) = False := eq_false (Nat.not_lt.2 (by have h_ := c57; simp only [ByteArray.size_append] at h_; exact h_))
            by_cases c58 : ((((((⟨#[40, 32]⟩ : ByteArray) ++ t194) ++ (⟨#[32, 41, 32]⟩ : ByteArray)) ++ t218) ++ (⟨#[32, 40, 32]⟩ : ByteArray)) ++ t197).size + 2 ≤ 9223372036854775807
            ·rw [if_pos c58] at H
             have c58b0 := eq_true c58
             have c58b1 : decide (((((((⟨#[40, 32]⟩ : ByteArray) ++ t194) ++ (⟨#[32, 41, 32]⟩ : ByteArray)) ++ t218) ++ (⟨#[32, 40, 32]⟩ : ByteArray)) ++ t197).size + 2 ≤ 9223372036854775807) = true := decide_eq_true c58
             try have c58b2 : (9223372036854775807 < ((((((⟨#[40, 32]⟩ : ByteArray) ++ t194) ++ (⟨#[32, 41, 32]⟩ : ByteArray)) ++ t218) ++ (⟨#[32, 40, 32]⟩ : ByteArray)) ++ t197).size + 2) = False := eq_false (Nat.not_lt.2 c58)
             have c58b3 : (9223372036854775807 < 2 + t194.size + 3 + t218.size + 3 + t197.size + 2) = False := eq_false (Nat.not_lt.2 (by have h_ := c58; simp only [ByteArray.size_append] at h_; exact h_))
             simp only [Option.some.injEq, Prod.mk.injEq] at H
             obtain ⟨rfl, rfl, rfl⟩ := H
             go_wp2_with (first | ((with_reducible refine gate_callee (f := 42) rfl ?_); refine gl_ (some 24) Try.func42 #[.pointer (some ⟨g, 0, none⟩), .int .i64 (wrap64 (a1 - 1))] rfl rfl rfl ?_; (with_reducible refine (ih kj2 (by have := HJ2.out; omega) g s0_0 x1001_2 x1002_2 (wrap64 (a1 - 1)) t194 t195 t196 w0 _ ?side1 ?side2 A22.out).mono ?_); (case side1 => exact IsS40.q HI0); (case side2 => exact hbI_ HB (IsS40.ge HI0.out)); rintro e w59 ⟨rfl, hi, hb, hk⟩; refine ⟨_, rfl, ?_⟩; replace HK := Aside0.mk (KeepBut.trans (hk_ HK) hk (.inl rfl)); replace HB := Aside0.mk (hb); replace HI0 := Aside0.mk (hi); (try clear hb); (try clear hb2); (try clear hk); (try clear hi)) | ((with_reducible refine gate_callee (f := 42) rfl ?_); refine gl_ (some 28) Try.func42 #[.pointer (some ⟨g, 0, none⟩), .int .i64 (wrap64 (a1 - 1))] rfl rfl rfl ?_; (with_reducible refine (ih kj2 (by have := HJ2.out; omega) g s0_0 t195 t196 (wrap64 (a1 - 1)) t197 t198 t199 w0 _ ?side1 ?side2 A23.out).mono ?_); (case side1 => exact IsS40.q HI0); (case side2 => exact hbI_ HB (IsS40.ge HI0.out)); rintro e w60 ⟨rfl, hi, hb, hk⟩; refine ⟨_, rfl, ?_⟩; replace HK := Aside0.mk (KeepBut.trans (hk_ HK) hk (.inl rfl)); replace HB := Aside0.mk (hb); replace HI0 := Aside0.mk (hi); (try clear hb); (try clear hb2); (try clear hk); (try clear hi)) | ((with_reducible refine gate_callee (f := 24) rfl ?_); refine gl_ (some 30) Try.func24 #[.pointer (some ⟨g, 0, none⟩), .int .i64 7] rfl rfl rfl ?_; (with_reducible refine (spec_l1Cur_pick.calls g s0_0 t198 t199 7 t200 t201 t202 w0 _ ?side1 ?side2 A24.out).mono ?_); (case side1 => exact IsS40.q HI0); (case side2 => exact hbI_ HB (IsS40.ge HI0.out)); rintro e w61 ⟨rfl, hi, hb, hk⟩; refine ⟨_, rfl, ?_⟩; replace HK := Aside0.mk (KeepBut.trans (hk_ HK) hk (.inl rfl)); replace HB := Aside0.mk (hb); replace HI0 := Aside0.mk (hi); (try clear hb); (try clear hb2); (try clear hk); (try clear hi)) | ((with_reducible refine gate_dst (N := 64) rfl ?_); refine Kd.R_lit Kd.string _ 9 ?hg (N := 64) ?hd (xs := ([(⟨#[42]⟩ : ByteArray), (⟨#[47]⟩ : ByteArray), (⟨#[45]⟩ : ByteArray)] : List ByteArray)) (inner := [.string (⟨#[42]⟩ : ByteArray), .string (⟨#[47]⟩ : ByteArray), .string (⟨#[45]⟩ : ByteArray)]) (ok := fun _ => True) (okp := fun _ => True) ?hr ?hp (fun _ hk => hk) trivial (Below.refl _ _) (Nat.le_refl _) (by simp) ?_; (case hd => rfl); (case hg => rfl); (case hr => first | (go_simp; done) | (go_simp; rfl)); (case hp => exact (Reps.one (show Kd.M Kd.string _ _ _ (⟨#[42]⟩ : ByteArray) [.string (⟨#[42]⟩ : ByteArray)] from rfl) (Reps.one (show Kd.M Kd.string _ _ _ (⟨#[47]⟩ : ByteArray) [.string (⟨#[47]⟩ : ByteArray)] from rfl) (Reps.one (show Kd.M Kd.string _ _ _ (⟨#[45]⟩ : ByteArray) [.string (⟨#[45]⟩ : ByteArray)] from rfl) (Reps.none _ _))))); intro v216 w62 ho63 hb hg_ hnew_; clear hg_ hnew_; (first | rw [← Ny215.out] at ho63 | (simp only [Int.reduceToNat] at ho63; rw [← Ny215.out] at ho63)); have HO217 := Aside0.mk (Kd.R_lower ho63 (keep_size (hk_ HK))); replace HK := hkb_ HK hb; replace HB := Aside0.mk (below_step (hbI_ HB (IsS40.ge HI0.out)) hb); replace HI0 := IsS40.b HI0 hb; clear hb ho63; obtain ⟨Ao64, co64, eo64⟩ := Kd.R_slice HO217.out; subst eo64) | ((with_reducible refine gate_callee (f := 50) rfl ?_); refine gl_ (some 65) Try.func50 #[.pointer (some ⟨g, 0, none⟩), .slice Ao64 y215.length co64] rfl rfl rfl ?_; (with_reducible refine (spec_l1Cur_of.calls g s0_0 t201 t202 _ _ y215 t218 t219 t220 w0 _ ?side1 ?side2 ?side3 ?side4 ?side5 A54.out).mono ?_); (case side1 => exact IsS40.q HI0); (case side2 => exact hbI_ HB (IsS40.ge HI0.out)); (case side3 => exact Kd.C_o HO217); (case side4 => exact (Kd.R_reads' HO217.out).2.1); (case side5 => exact far_slice (IsS40.own_ne HI0.out HO217.out (by decide))); rintro e w65 ⟨rfl, hi, hb, hk⟩; refine ⟨_, rfl, ?_⟩; have n0_ := IsS40.rk HI0 HO217 hk; have n1_ := Aside0.mk (KeepBut.trans (hk_ HK) hk (.inl rfl)); have n2_ := Aside0.mk (hb); have n3_ := Aside0.mk (hi); clear HO217 HK HB HI0; have HO217 := n0_; have HK := n1_; have HB := n2_; have HI0 := n3_; clear n0_ n1_ n2_ n3_; (try clear hb); (try clear hb2); (try clear hk); (try clear hi)))
             go_ret
             exact ⟨by first | rfl | (simp [errW_none, errW_some] <;> rfl) | (simp [*, errW_none, errW_some] <;> rfl), IsS40.q HI0, hbI_ HB (IsS40.ge HI0.out), hk_ HK⟩
            ·rw [if_neg c58] at H
             exact absurd H (by simp)
           ·rw [if_neg c57] at H
            exact absurd H (by simp)
          ·rw [if_neg c56] at H
           exact absurd H (by simp)
         ·rw [if_neg c55] at H
          exact absurd H (by simp)
        ·rw [if_neg c53] at H
         exact absurd H (by simp)
       ·rw [if_neg c52] at H
        exact absurd H (by simp)
      ·rw [if_neg c51] at H
       have c51b0 : (t200 == 2) = false := beq_eq_false_iff_ne.mpr c51
       have c51b1 : (t200 != 2) = true := bne_iff_ne.mpr c51
       by_cases c66 : t194.size + 1 ≤ 9223372036854775807
       ·rw [if_pos c66] at H
        have c66b0 := eq_true c66
        have c66b1 : decide (t194.size + 1 ≤ 9223372036854775807) = true := decide_eq_true c66
        try have c66b2 : (9223372036854775807 < t194.size + 1) = False := eq_false (Nat.not_lt.2 c66)
        obtain ⟨y221, hy221⟩ : ∃ y_ : List ByteArray, y_ = (([(⟨#[43]⟩ : ByteArray), (⟨#[45]⟩ : ByteArray), (⟨#[42]⟩ : ByteArray), (⟨#[47]⟩ : ByteArray)] : List ByteArray)) := ⟨_, rfl⟩
        replace H : ((spec_l1Cur_of.f s0_0 t201 t202 y221).bind fun bt224 => (if (t194 ++ (⟨#[32]⟩ : ByteArray)).size + bt224.1.size ≤ 9223372036854775807 then (if ((t194 ++ (⟨#[32]⟩ : ByteArray)) ++ bt224.1).size + 1 ≤ 9223372036854775807 then (if (((t194 ++ (⟨#[32]⟩ : ByteArray)) ++ bt224.1) ++ (⟨#[32]⟩ : ByteArray)).size + t197.size ≤ 9223372036854775807 then (some ((((t194 ++ (⟨#[32]⟩ : ByteArray)) ++ bt224.1) ++ (⟨#[32]⟩ : ByteArray)) ++ t197, bt224.2.1, bt224.2.2)) else (none)) else (none)) else (none))) = some (r1, r2, r3) := by first | (rw [hy221]; with_reducible exact H) | (have H2_ := (Option.bind_some _ _).symm.trans H; rw [hy221]; with_reducible exact H2_) | (have H2_ := (Option.bind_some _ _).symm.trans H; with_reducible exact H2_) | with_reducible exact H | (rw [hy221]; exact H) | exact H
        have Ny221 := Aside0.mk hy221
        clear hy221
        replace H := Option.bind_eq_some_iff.mp H
        obtain ⟨⟨t224, t225, t226⟩, A670, H⟩ := H
        replace H : (if (t194 ++ (⟨#[32]⟩ : ByteArray)).size + t224.size ≤ 9223372036854775807 then (if ((t194 ++ (⟨#[32]⟩ : ByteArray)) ++ t224).size + 1 ≤ 9223372036854775807 then (if (((t194 ++ (⟨#[32]⟩ : ByteArray)) ++ t224) ++ (⟨#[32]⟩ : ByteArray)).size + t197.size ≤ 9223372036854775807 then (some ((((t194 ++ (⟨#[32]⟩ : ByteArray)) ++ t224) ++ (⟨#[32]⟩ : ByteArray)) ++ t197, t225, t226)) else (none)) else (none)) else (none)) = some (r1, r2, r3) := H
        have A67 := Aside0.mk A670
        clear A670
        by_cases c68 : (t194 ++ (⟨#[32]⟩ : ByteArray)).size + t224.size ≤ 9223372036854775807
        ·rw [if_pos c68] at H
         have c68b0 := eq_true c68
         have c68b1 : decide ((t194 ++ (⟨#[32]⟩ : ByteArray)).size + t224.size ≤ 9223372036854775807) = true := decide_eq_true c68
         try have c68b2 : (9223372036854775807 < (t194 ++ (⟨#[32]⟩ : ByteArray)).size + t224.size) = False := eq_false (Nat.not_lt.2 c68)
         have c68b3 : (9223372036854775807 < t194.size + 1 + t224.size) = False := eq_false (Nat.not_lt.2 (by have h_ := c68; simp only [ByteArray.size_append] at h_; exact h_))
         by_cases c69 : ((t194 ++ (⟨#[32]⟩ : ByteArray)) ++ t224).size + 1 ≤ 9223372036854775807
         ·rw [if_pos c69] at H
          have c69b0 := eq_true c69
          have c69b1 : decide (((t194 ++ (⟨#[32]⟩ : ByteArray)) ++ t224).size + 1 ≤ 9223372036854775807) = true := decide_eq_true c69
          try have c69b2 : (9223372036854775807 < ((t194 ++ (⟨#[32]⟩ : ByteArray)) ++ t224).size + 1) = False := eq_false (Nat.not_lt.2 c69)
          have c69b3 : (9223372036854775807 < t194.size + 1 + t224.size + 1) = False := eq_false (Nat.not_lt.2 (by have h_ := c69; simp only [ByteArray.size_append] at h_; exact h_))
          by_cases c70 : (((t194 ++ (⟨#[32]⟩ : ByteArray)) ++ t224) ++ (⟨#[32]⟩ : ByteArray)).size + t197.size ≤ 9223372036854775807
          ·rw [if_pos c70] at H
           have c70b0 := eq_true c70
           have c70b1 : decide ((((t194 ++ (⟨#[32]⟩ : ByteArray)) ++ t224) ++ (⟨#[32]⟩ : ByteArray)).size + t197.size ≤ 9223372036854775807) = true := decide_eq_true c70
           try have c70b2 : (9223372036854775807 < (((t194 ++ (⟨#[32]⟩ : ByteArray)) ++ t224) ++ (⟨#[32]⟩ : ByteArray)).size + t197.size) = False := eq_false (Nat.not_lt.2 c70)
           have c70b3 : (9223372036854775807 < t194.size + 1 + t224.size + 1 + t197.size) = False := eq_false (Nat.not_lt.2 (by have h_ := c70; simp only [ByteArray.size_append] at h_; exact h_))
           simp only [Option.some.injEq, Prod.mk.injEq] at H
           obtain ⟨rfl, rfl, rfl⟩ := H
           go_wp2_with (first | ((with_reducible refine gate_callee (f := 42) rfl ?_); refine gl_ (some 24) Try.func42 #[.pointer (some ⟨g, 0, none⟩), .int .i64 (wrap64 (a1 - 1))] rfl rfl rfl ?_; (with_reducible refine (ih kj2 (by have := HJ2.out; omega) g s0_0 x1001_2 x1002_2 (wrap64 (a1 - 1)) t194 t195 t196 w0 _ ?side1 ?side2 A22.out).mono ?_); (case side1 => exact IsS40.q HI0); (case side2 => exact hbI_ HB (IsS40.ge HI0.out)); rintro e w71 ⟨rfl, hi, hb, hk⟩; refine ⟨_, rfl, ?_⟩; replace HK := Aside0.mk (KeepBut.trans (hk_ HK) hk (.inl rfl)); replace HB := Aside0.mk (hb); replace HI0 := Aside0.mk (hi); (try clear hb); (try clear hb2); (try clear hk); (try clear hi)) | ((with_reducible refine gate_callee (f := 42) rfl ?_); refine gl_ (some 28) Try.func42 #[.pointer (some ⟨g, 0, none⟩), .int .i64 (wrap64 (a1 - 1))] rfl rfl rfl ?_; (with_reducible refine (ih kj2 (by have := HJ2.out; omega) g s0_0 t195 t196 (wrap64 (a1 - 1)) t197 t198 t199 w0 _ ?side1 ?side2 A23.out).mono ?_); (case side1 => exact IsS40.q HI0); (case side2 => exact hbI_ HB (IsS40.ge HI0.out)); rintro e w72 ⟨rfl, hi, hb, hk⟩; refine ⟨_, rfl, ?_⟩; replace HK := Aside0.mk (KeepBut.trans (hk_ HK) hk (.inl rfl)); replace HB := Aside0.mk (hb); replace HI0 := Aside0.mk (hi); (try clear hb); (try clear hb2); (try clear hk); (try clear hi)) | ((with_reducible refine gate_callee (f := 24) rfl ?_); refine gl_ (some 30) Try.func24 #[.pointer (some ⟨g, 0, none⟩), .int .i64 7] rfl rfl rfl ?_; (with_reducible refine (spec_l1Cur_pick.calls g s0_0 t198 t199 7 t200 t201 t202 w0 _ ?side1 ?side2 A24.out).mono ?_); (case side1 => exact IsS40.q HI0); (case side2 => exact hbI_ HB (IsS40.ge HI0.out)); rintro e w73 ⟨rfl, hi, hb, hk⟩; refine ⟨_, rfl, ?_⟩; replace HK := Aside0.mk (KeepBut.trans (hk_ HK) hk (.inl rfl)); replace HB := Aside0.mk (hb); replace HI0 := Aside0.mk (hi); (try clear hb); (try clear hb2); (try clear hk); (try clear hi)) | ((with_reducible refine gate_dst (N := 74) rfl ?_); refine Kd.R_lit Kd.string _ 9 ?hg (N := 74) ?hd (xs := ([(⟨#[43]⟩ : ByteArray), (⟨#[45]⟩ : ByteArray), (⟨#[42]⟩ : ByteArray), (⟨#[47]⟩ : ByteArray)] : List ByteArray)) (inner := [.string (⟨#[43]⟩ : ByteArray), .string (⟨#[45]⟩ : ByteArray), .string (⟨#[42]⟩ : ByteArray), .string (⟨#[47]⟩ : ByteArray)]) (ok := fun _ => True) (okp := fun _ => True) ?hr ?hp (fun _ hk => hk) trivial (Below.refl _ _) (Nat.le_refl _) (by simp) ?_; (case hd => rfl); (case hg => rfl); (case hr => first | (go_simp; done) | (go_simp; rfl)); (case hp => exact (Reps.one (show Kd.M Kd.string _ _ _ (⟨#[43]⟩ : ByteArray) [.string (⟨#[43]⟩ : ByteArray)] from rfl) (Reps.one (show Kd.M Kd.string _ _ _ (⟨#[45]⟩ : ByteArray) [.string (⟨#[45]⟩ : ByteArray)] from rfl) (Reps.one (show Kd.M Kd.string _ _ _ (⟨#[42]⟩ : ByteArray) [.string (⟨#[42]⟩ : ByteArray)] from rfl) (Reps.one (show Kd.M Kd.string _ _ _ (⟨#[47]⟩ : ByteArray) [.string (⟨#[47]⟩ : ByteArray)] from rfl) (Reps.none _ _)))))); intro v222 w74 ho75 hb hg_ hnew_; clear hg_ hnew_; (first | rw [← Ny221.out] at ho75 | (simp only [Int.reduceToNat] at ho75; rw [← Ny221.out] at ho75)); have HO223 := Aside0.mk (Kd.R_lower ho75 (keep_size (hk_ HK))); replace HK := hkb_ HK hb; replace HB := Aside0.mk (below_step (hbI_ HB (IsS40.ge HI0.out)) hb); replace HI0 := IsS40.b HI0 hb; clear hb ho75; obtain ⟨Ao76, co76, eo76⟩ := Kd.R_slice HO223.out; subst eo76) | ((with_reducible refine gate_callee (f := 50) rfl ?_); refine gl_ (some 75) Try.func50 #[.pointer (some ⟨g, 0, none⟩), .slice Ao76 y221.length co76] rfl rfl rfl ?_; (with_reducible refine (spec_l1Cur_of.calls g s0_0 t201 t202 _ _ y221 t224 t225 t226 w0 _ ?side1 ?side2 ?side3 ?side4 ?side5 A67.out).mono ?_); (case side1 => exact IsS40.q HI0); (case side2 => exact hbI_ HB (IsS40.ge HI0.out)); (case side3 => exact Kd.C_o HO223); (case side4 => exact (Kd.R_reads' HO223.out).2.1); (case side5 => exact far_slice (IsS40.own_ne HI0.out HO223.out (by decide))); rintro e w77 ⟨rfl, hi, hb, hk⟩; refine ⟨_, rfl, ?_⟩; have n0_ := IsS40.rk HI0 HO223 hk; have n1_ := Aside0.mk (KeepBut.trans (hk_ HK) hk (.inl rfl)); have n2_ := Aside0.mk (hb); have n3_ := Aside0.mk (hi); clear HO223 HK HB HI0; have HO223 := n0_; have HK := n1_; have HB := n2_; have HI0 := n3_; clear n0_ n1_ n2_ n3_; (try clear hb); (try clear hb2); (try clear hk); (try clear hi)))
           go_ret
           exact ⟨by first | rfl | (simp [errW_none, errW_some] <;> rfl) | (simp [*, errW_none, errW_some] <;> rfl), IsS40.q HI0, hbI_ HB (IsS40.ge HI0.out), hk_ HK⟩
          ·rw [if_neg c70] at H
           exact absurd H (by simp)
         ·rw [if_neg c69] at H
          exact absurd H (by simp)
        ·rw [if_neg c68] at H
         exact absurd H (by simp)
       ·rw [if_neg c66] at H
        exact absurd H (by simp)

/-! ### spec_l1Cur_rule: function 25 -/
def spec_l1Cur_rule.l0 : Nat → Int → List Int → Int → Int → Option ((List (S52)) × Int × Int)
 | 0, _, _, _, _ => none
 | k + 1, x3, x1000, x1001, x1002 => if x3 < 4 then ((spec_l1Cur_wording.f k x1000 x1001 x1002 (wrap64 (3 - (wrap64 (Int.tdiv x3 2))))).bind fun bt233 => ((spec_ParseRule.f k bt233.1).bind fun bt236 => (if bt236.2 = true then (some (bt236.1, bt233.2.1, bt233.2.2)) else (spec_l1Cur_rule.l0 k (wrap64 (x3 + 1)) x1000 bt233.2.1 bt233.2.2)))) else ((spec_l1Cur_pick.f x1000 x1001 x1002 5).bind fun bt227 => (some ((([(⟨1, bt227.1⟩ : S52)] : List (S52))), bt227.2.1, bt227.2.2)))
def spec_l1Cur_rule.f (k : Nat) (s0_0 : List Int) (s0_1 : Int) (s0_2 : Int) : Option ((List (S52)) × Int × Int) := spec_l1Cur_rule.l0 k 0 s0_0 s0_1 s0_2
set_option maxHeartbeats 8000000 in
set_option maxRecDepth 100000 in
theorem spec_l1Cur_rule.calls (k : Nat) (g : Nat) (s0_0 : List Int) (s0_1 : Int) (s0_2 : Int) (r1 : List (S52)) (r2 : Int) (r3 : Int) (w0 w : World) (hI : IsS40 w0 w g s0_0 s0_1 s0_2) (hB : Below w0.heap.size w0 w) (h : spec_l1Cur_rule.f k s0_0 s0_1 s0_2 = some (r1, r2, r3)) :
  Calls Try.prog 25 #[.pointer (some ⟨g, 0, none⟩)] w fun e w' => ∃ v0_ : Value, e = .returned (v0_) ∧ Kd.R k52 52 w' w.heap.size (fun _ => True) v0_ r1 ∧ IsS40 w0 w' g s0_0 r2 r3 ∧ Below w0.heap.size w0 w' ∧ KeepBut w w' g none := by
 have hu52 := Try.underlying52
 have HI0 := Aside0.mk hI
 have HK := Aside0.mk (KeepBut.refl w g none)
 have HL := Aside0.mk hB.size
 clear hI
 have HW0 := Aside0.mk hB.size
 have HB := Aside0.mk hB
 clear hB
 have H : (spec_l1Cur_rule.l0 k 0 s0_0 s0_1 s0_2) = some (r1, r2, r3) := h
 clear h
 have H' := Aside0.mk H
 clear H
 go_enter Try.func25, Try.ntmps25
 go_wp2
 go_loopg [3] k (fun kq v3 w' => ∃ (x3_1 : Int) (x1001_1 : Int) (x1002_1 : Int), v3 = .int .i64 x3_1 ∧ Aside0 (spec_l1Cur_rule.l0 kq x3_1 s0_0 x1001_1 x1002_1 = some (r1, r2, r3)) ∧ Aside0 (kq ≤ k) ∧ Aside0 (IsS40 w0 w' g s0_0 x1001_1 x1002_1) ∧ Aside0 (KeepBut w w' g none) ∧ Aside0 (Below w0.heap.size w0 w'))
 case atStart => exact ⟨(0), (s0_1), (s0_2), (by first | rfl | (simp; done) | (simp [*]; done)), H', ⟨Nat.le_refl _⟩, ⟨IsS40.q HI0⟩, ⟨hk_ HK⟩, ⟨hbI_ HB (IsS40.ge HI0.out)⟩⟩
 case round =>
  clear H'
  obtain ⟨x3_1, x1001_1, x1002_1, rfl, HA, HK1, HI0, HK, HB⟩ := hrel
  cases gk with
  | zero => exact absurd HA.out (by simp [spec_l1Cur_rule.l0])
  | succ k1 =>
   have H := HA.out
   clear HA
   simp only [spec_l1Cur_rule.l0] at H
   by_cases c2 : x3_1 < 4
   ·rw [if_pos c2] at H
    have c2b0 : decide (x3_1 < 4) = true := decide_eq_true c2
    clear c2
    replace H := Option.bind_eq_some_iff.mp H
    obtain ⟨⟨t233, t234, t235⟩, A30, H⟩ := H
    replace H : ((spec_ParseRule.f k1 t233).bind fun bt236 => (if bt236.2 = true then (some (bt236.1, t234, t235)) else (spec_l1Cur_rule.l0 k1 (wrap64 (x3_1 + 1)) s0_0 t234 t235))) = some (r1, r2, r3) := H
    have A3 := Aside0.mk A30
    clear A30
    replace H := Option.bind_eq_some_iff.mp H
    obtain ⟨⟨t236, t237⟩, A40, H⟩ := H
    replace H : (if t237 = true then (some (t236, t234, t235)) else (spec_l1Cur_rule.l0 k1 (wrap64 (x3_1 + 1)) s0_0 t234 t235)) = some (r1, r2, r3) := H
    have A4 := Aside0.mk A40
    clear A40
    by_cases c5 : t237 = true
    ·subst c5
     have H1 : (some (t236, t234, t235)) = some (r1, r2, r3) := by rw [if_pos rfl] at H; exact H
     clear H
     have H := H1
     clear H1
     simp only [Option.some.injEq, Prod.mk.injEq] at H
     obtain ⟨rfl, rfl, rfl⟩ := H
     go_wp2_with (first | ((with_reducible refine gate_callee (f := 42) rfl ?_); refine gl_ (some 15) Try.func42 #[.pointer (some ⟨g, 0, none⟩), .int .i64 (wrap64 (3 - (wrap64 (Int.tdiv x3_1 2))))] rfl rfl rfl ?_; (with_reducible refine (spec_l1Cur_wording.calls k1 g s0_0 x1001_1 x1002_1 (wrap64 (3 - (wrap64 (Int.tdiv x3_1 2)))) t233 t234 t235 w0 _ ?side1 ?side2 A3.out).mono ?_); (case side1 => exact IsS40.q HI0); (case side2 => exact hbI_ HB (IsS40.ge HI0.out)); rintro e w6 ⟨rfl, hi, hb, hk⟩; refine ⟨_, rfl, ?_⟩; replace HK := Aside0.mk (KeepBut.trans (hk_ HK) hk (.inl rfl)); replace HB := Aside0.mk (hb); replace HI0 := Aside0.mk (hi); (try clear hb); (try clear hb2); (try clear hk); (try clear hi)) | ((with_reducible refine gate_callee (f := 41) rfl ?_); refine gl_ (some 16) Try.func41 #[.string t233] rfl rfl rfl ?_; (with_reducible refine (spec_ParseRule.calls k1 t233 t236 true _ A4.out).mono ?_); rintro e w7 ⟨v238, rfl, ho0, hb⟩; refine ⟨_, rfl, ?_⟩; have HO239 := Aside0.mk (Kd.R_lower ho0 (keep_size (hk_ HK))); replace HK := hkb_ HK hb; replace HB := Aside0.mk (below_step (hbI_ HB (IsS40.ge HI0.out)) hb); replace HI0 := IsS40.b HI0 hb; (try clear hb); (try clear hb2); (try clear hk); (try clear hi); (try clear ho0)))
     go_ret
     exact ⟨_, by first | rfl | (simp [errW_none, errW_some] <;> rfl) | (simp [*, errW_none, errW_some] <;> rfl), Kd.R_p HO239, IsS40.q HI0, hbI_ HB (IsS40.ge HI0.out), hk_ HK⟩
    ·replace c5 := Bool.eq_false_iff.mpr c5
     subst c5
     have H1 : (spec_l1Cur_rule.l0 k1 (wrap64 (x3_1 + 1)) s0_0 t234 t235) = some (r1, r2, r3) := by rw [if_neg (show ¬ (false = true) by decide)] at H; exact H
     clear H
     have H := H1
     clear H1
     have H' := Aside0.mk H
     clear H
     go_wp2_with (first | ((with_reducible refine gate_callee (f := 42) rfl ?_); refine gl_ (some 15) Try.func42 #[.pointer (some ⟨g, 0, none⟩), .int .i64 (wrap64 (3 - (wrap64 (Int.tdiv x3_1 2))))] rfl rfl rfl ?_; (with_reducible refine (spec_l1Cur_wording.calls k1 g s0_0 x1001_1 x1002_1 (wrap64 (3 - (wrap64 (Int.tdiv x3_1 2)))) t233 t234 t235 w0 _ ?side1 ?side2 A3.out).mono ?_); (case side1 => exact IsS40.q HI0); (case side2 => exact hbI_ HB (IsS40.ge HI0.out)); rintro e w8 ⟨rfl, hi, hb, hk⟩; refine ⟨_, rfl, ?_⟩; replace HK := Aside0.mk (KeepBut.trans (hk_ HK) hk (.inl rfl)); replace HB := Aside0.mk (hb); replace HI0 := Aside0.mk (hi); (try clear hb); (try clear hb2); (try clear hk); (try clear hi)) | ((with_reducible refine gate_callee (f := 41) rfl ?_); refine gl_ (some 16) Try.func41 #[.string t233] rfl rfl rfl ?_; (with_reducible refine (spec_ParseRule.calls k1 t233 t236 false _ A4.out).mono ?_); rintro e w9 ⟨v238, rfl, ho0, hb⟩; refine ⟨_, rfl, ?_⟩; have HO239 := Aside0.mk (Kd.R_lower ho0 (keep_size (hk_ HK))); replace HK := hkb_ HK hb; replace HB := Aside0.mk (below_step (hbI_ HB (IsS40.ge HI0.out)) hb); replace HI0 := IsS40.b HI0 hb; (try clear hb); (try clear hb2); (try clear hk); (try clear hi); (try clear ho0)))
     go_roundg k1
     case measure => have := HK1.out; omega
     case rel => exact ⟨(wrap64 (x3_1 + 1)), (t234), (t235), (by first | rfl | (simp; done) | (simp [*]; done)), H', ⟨by have := HK1.out; omega⟩, ⟨IsS40.q HI0⟩, ⟨hk_ HK⟩, ⟨hbI_ HB (IsS40.ge HI0.out)⟩⟩
   ·rw [if_neg c2] at H
    have c2b0 : decide (x3_1 < 4) = false := decide_eq_false c2
    clear c2
    replace H := Option.bind_eq_some_iff.mp H
    obtain ⟨⟨t227, t228, t229⟩, A100, H⟩ := H
    replace H : (some ((([(⟨1, t227⟩ : S52)] : List (S52))), t228, t229)) = some (r1, r2, r3) := H
    have A10 := Aside0.mk A100
    clear A100
    obtain ⟨y230, hy230⟩ : ∃ y_ : List (S52), y_ = (([(⟨1, t227⟩ : S52)] : List (S52))) := ⟨_, rfl⟩
    replace H : (some (y230, t228, t229)) = some (r1, r2, r3) := by first | (rw [hy230]; with_reducible exact H) | (have H2_ := (Option.bind_some _ _).symm.trans H; rw [hy230]; with_reducible exact H2_) | (have H2_ := (Option.bind_some _ _).symm.trans H; with_reducible exact H2_) | with_reducible exact H | (rw [hy230]; exact H) | exact H
    have Ny230 := Aside0.mk hy230
    clear hy230
    simp only [Option.some.injEq, Prod.mk.injEq] at H
    obtain ⟨rfl, rfl, rfl⟩ := H
    go_wp2_with (first | ((with_reducible refine gate_callee (f := 24) rfl ?_); refine gl_ (some 22) Try.func24 #[.pointer (some ⟨g, 0, none⟩), .int .i64 5] rfl rfl rfl ?_; (with_reducible refine (spec_l1Cur_pick.calls g s0_0 x1001_1 x1002_1 5 t227 t228 t229 w0 _ ?side1 ?side2 A10.out).mono ?_); (case side1 => exact IsS40.q HI0); (case side2 => exact hbI_ HB (IsS40.ge HI0.out)); rintro e w11 ⟨rfl, hi, hb, hk⟩; refine ⟨_, rfl, ?_⟩; replace HK := Aside0.mk (KeepBut.trans (hk_ HK) hk (.inl rfl)); replace HB := Aside0.mk (hb); replace HI0 := Aside0.mk (hi); (try clear hb); (try clear hb2); (try clear hk); (try clear hi)) | ((with_reducible refine gate_dst (N := 24) rfl ?_); refine Kd.R_lit k52 _ 52 ?hg (N := 24) ?hd (xs := ([(⟨1, t227⟩ : S52)] : List (S52))) (inner := [.int .i64 1, .int .i64 t227]) (ok := fun _ => True) (okp := fun _ => True) ?hr ?hp (fun _ hk => hk) trivial (Below.refl _ _) (Nat.le_refl _) (by simp) ?_; (case hd => rfl); (case hg => rfl); (case hr => first | (go_simp; done) | (go_simp; rfl)); (case hp => exact (Reps.c2 (show Kd.M k52 _ _ _ (⟨1, t227⟩ : S52) [.int .i64 1, .int .i64 t227] from (k52_mkM _ _ _ (⟨1, t227⟩ : S52) )) (Reps.none _ _))); intro v231 w12 ho13 hb hg_ hnew_; clear hg_ hnew_; (first | rw [← Ny230.out] at ho13 | (simp only [Int.reduceToNat] at ho13; rw [← Ny230.out] at ho13)); have HO232 := Aside0.mk (Kd.R_lower ho13 (keep_size (hk_ HK))); replace HK := hkb_ HK hb; replace HB := Aside0.mk (below_step (hbI_ HB (IsS40.ge HI0.out)) hb); replace HI0 := IsS40.b HI0 hb; clear hb ho13))
    go_ret
    exact ⟨_, by first | rfl | (simp [errW_none, errW_some] <;> rfl) | (simp [*, errW_none, errW_some] <;> rfl), Kd.R_p HO232, IsS40.q HI0, hbI_ HB (IsS40.ge HI0.out), hk_ HK⟩

/-! ### spec_l1Cur_among: function 27 -/
def spec_l1Cur_among.f (s0_0 : List Int) (s0_1 : Int) (s0_2 : Int) (l1 : List Int) : Option (Int × Int × Int) := (spec_l1Cur_pick.f s0_0 s0_1 s0_2 (l1.length : Int)).bind fun bt240 => (if 0 ≤ bt240.1 then (if bt240.1 < (l1.length : Int) then (some (rd l1 bt240.1, bt240.2.1, bt240.2.2)) else (none)) else (none))
set_option maxHeartbeats 8000000 in
set_option maxRecDepth 100000 in
theorem spec_l1Cur_among.calls (g : Nat) (s0_0 : List Int) (s0_1 : Int) (s0_2 : Int) (A1 : Option Addr) (c1 : Nat) (l1 : List Int) (r1 : Int) (r2 : Int) (r3 : Int) (w0 w : World) (hI : IsS40 w0 w g s0_0 s0_1 s0_2) (hB : Below w0.heap.size w0 w) (hr1 : Kd.C (Kd.int .i64) w A1 l1.length l1) (hc1 : l1.length ≤ c1) (hf1 : ∀ ad, A1 = some ad → 0 < l1.length → ad.block ≠ g) (h : spec_l1Cur_among.f s0_0 s0_1 s0_2 l1 = some (r1, r2, r3)) :
  Calls Try.prog 27 #[.pointer (some ⟨g, 0, none⟩), .slice A1 l1.length c1] w fun e w' => e = .returned (.int .i64 r1) ∧ IsS40 w0 w' g s0_0 r2 r3 ∧ Below w0.heap.size w0 w' ∧ KeepBut w w' g none := by
 have HR1 := Aside0.mk hr1
 have HC1 := Aside0.mk hc1
 clear hr1 hc1
 have HI0 := Aside0.mk hI
 have HK := Aside0.mk (KeepBut.refl w g none)
 have HL := Aside0.mk hB.size
 clear hI
 have HW0 := Aside0.mk hB.size
 have HB := Aside0.mk hB
 clear hB
 have H : ((spec_l1Cur_pick.f s0_0 s0_1 s0_2 (l1.length : Int)).bind fun bt240 => (if 0 ≤ bt240.1 then (if bt240.1 < (l1.length : Int) then (some (rd l1 bt240.1, bt240.2.1, bt240.2.2)) else (none)) else (none))) = some (r1, r2, r3) := h
 clear h
 replace H := Option.bind_eq_some_iff.mp H
 obtain ⟨⟨t240, t241, t242⟩, A30, H⟩ := H
 replace H : (if 0 ≤ t240 then (if t240 < (l1.length : Int) then (some (rd l1 t240, t241, t242)) else (none)) else (none)) = some (r1, r2, r3) := H
 have A3 := Aside0.mk A30
 clear A30
 by_cases c4 : 0 ≤ t240
 ·rw [if_pos c4] at H
  have c4b0 : decide (0 ≤ t240) = true := decide_eq_true c4
  clear c4
  by_cases c5 : t240 < (l1.length : Int)
  ·rw [if_pos c5] at H
   have c5b0 : decide (t240 < (l1.length : Int)) = true := decide_eq_true c5
   clear c5
   simp only [Option.some.injEq, Prod.mk.injEq] at H
   obtain ⟨rfl, rfl, rfl⟩ := H
   go_enter Try.func27, Try.ntmps27
   go_wp2_with (first | ((with_reducible refine gate_callee (f := 24) rfl ?_); refine gl_ (some 9) Try.func24 #[.pointer (some ⟨g, 0, none⟩), .int .i64 (l1.length : Int)] rfl rfl rfl ?_; (with_reducible refine (spec_l1Cur_pick.calls g s0_0 s0_1 s0_2 (l1.length : Int) t240 t241 t242 w0 _ ?side1 ?side2 A3.out).mono ?_); (case side1 => exact IsS40.q HI0); (case side2 => exact hbI_ HB (IsS40.ge HI0.out)); rintro e w6 ⟨rfl, hi, hb, hk⟩; refine ⟨_, rfl, ?_⟩; replace HK := Aside0.mk (KeepBut.trans (hk_ HK) hk (.inl rfl)); replace HB := Aside0.mk (hb); replace HI0 := Aside0.mk (hi); (try clear hb); (try clear hb2); (try clear hk); (try clear hi); have p243 : 0 ≤ (t240 : Int) := of_decide_eq_true (by first | (with_reducible assumption) | assumption); have q243 : t240 < (l1.length : Int) := of_decide_eq_true (by first | (with_reducible assumption) | assumption); obtain ⟨ad243, e243, hx243_0⟩ := Kd.at_int HR1.out t240 p243 q243; cases e243; replace hx243_0 := keep_cell HK.out hx243_0 (by first | (rw [add_block]; exact hf1 _ rfl (by omega)) | exact hf1 _ rfl (by omega) | exact hf1 ad243 rfl (by omega)); replace p243 := eq_true p243; replace q243 := eq_true q243))
   go_ret
   exact ⟨by first | rfl | (simp [errW_none, errW_some] <;> rfl) | (simp [*, errW_none, errW_some] <;> rfl), IsS40.q HI0, hbI_ HB (IsS40.ge HI0.out), hk_ HK⟩
  ·rw [if_neg c5] at H
   exact absurd H (by simp)
 ·rw [if_neg c4] at H
  exact absurd H (by simp)

end Go.Proofs.Ytmhalgeoaccchaa.PFnFolded
