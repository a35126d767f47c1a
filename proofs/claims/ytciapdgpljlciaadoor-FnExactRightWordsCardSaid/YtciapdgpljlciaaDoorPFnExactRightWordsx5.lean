-- Laid for this claim by wip/tools/print2.sh, a changed copy of the kit's print (wip/tools/patch_print.py): not by print.sh. Changed by wip/fix/laid.py.
import Derived.Test.YtciapdgpljlciaaDoorPFnExactRightWordsx0
import Derived.Test.YtciapdgpljlciaaDoorPFnExactRightWordsx3
import Derived.Test.YtciapdgpljlciaaDoorPFnExactRightWordsx4
namespace Go.Proofs.YtciapdgpljlciaaDoor.PFnExactRightWords
open Go.RowKit Go.Proofs.YtciapdgpljlciaaDoorW.PrintWords Go.Proofs.YtciapdgpljlciaaDoorW.PrintLast Go.Proofs.YtciapdgpljlciaaDoorW.PrintMore
attribute [local go_sem] max2_int min2_int max_two min_two max_three min_three max_four min_four   -- for this text's walks alone
set_option linter.unusedVariables false
set_option linter.unusedSimpArgs false

/-! ### laws_FnExactRightWords: function 3 -/
def laws_FnExactRightWords.f (k : Nat) (a0 : ByteArray) : Option (Bool) := if (a0.size : Int) > 1048576 then (some true) else ((spec_RightWords.f k a0).bind fun bt111 => ((impl_RightWords.f k a0).bind fun bt113 => (if bt113.1 = bt111.1 then (if (bt113.2 != bt111.2) = true then (some false) else (some true)) else (some false))))
set_option maxHeartbeats 8000000 in
set_option maxRecDepth 100000 in
theorem laws_FnExactRightWords.calls (k : Nat) (a0 : ByteArray) (r : Bool) (w : World) (h : laws_FnExactRightWords.f k a0 = some r) (hL : LaidW w) :
  Calls Tryd.prog 3 #[.string a0] w fun e w' => e = .returned (.bool r) ∧ Below w.heap.size w w' := by
 have HLw := Aside0.mk hL
 clear hL
 have HB := Aside0.mk (Below.refl w.heap.size w)
 have H : (if (a0.size : Int) > 1048576 then (some true) else ((spec_RightWords.f k a0).bind fun bt111 => ((impl_RightWords.f k a0).bind fun bt113 => (if bt113.1 = bt111.1 then (if (bt113.2 != bt111.2) = true then (some false) else (some true)) else (some false))))) = some r := h
 clear h
 by_cases c2 : (a0.size : Int) > 1048576
 ·rw [if_pos c2] at H
  have c2b0 : decide (1048576 < (a0.size : Int)) = true := decide_eq_true c2
  have c2b1 : decide (1048576 < a0.size) = true := decide_eq_true (by omega)
  clear c2
  obtain rfl := Option.some.inj H
  go_enter Tryd.func3, Tryd.ntmps3
  go_wp2
  go_ret
  exact ⟨by first | rfl | (simp [errW_none, errW_some] <;> rfl) | (simp [*, errW_none, errW_some] <;> rfl), hb_ HB⟩
 ·rw [if_neg c2] at H
  have c2b0 : decide (1048576 < (a0.size : Int)) = false := decide_eq_false c2
  have c2b1 : decide (1048576 < a0.size) = false := decide_eq_false (by omega)
  clear c2
  replace H := Option.bind_eq_some_iff.mp H
  obtain ⟨⟨t111, t112⟩, A30, H⟩ := H
  replace H : ((impl_RightWords.f k a0).bind fun bt113 => (if bt113.1 = t111 then (if (bt113.2 != t112) = true then (some false) else (some true)) else (some false))) = some r := H
  have A3 := Aside0.mk A30
  clear A30
  replace H := Option.bind_eq_some_iff.mp H
  obtain ⟨⟨t113, t114⟩, A40, H⟩ := H
  replace H : (if t113 = t111 then (if (t114 != t112) = true then (some false) else (some true)) else (some false)) = some r := H
  have A4 := Aside0.mk A40
  clear A40
  by_cases c5 : t113 = t111
  ·rw [if_pos c5] at H
   have c5b0 : (t113 == t111) = true := beq_iff_eq.mpr c5
   have c5b1 : (t113 != t111) = false := bne_eq_false_iff_eq.mpr c5
   clear c5
   by_cases c6 : (t114 != t112) = true
   ·rw [if_pos c6] at H
    have c6b0 : (t114 != t112) = true := c6
    (try (have c6b1 : decide (t114 = t112) = false := by simpa using c6))
    (try (have c6b2 : (t114 == t112) = false := by simpa using c6))
    (try (have c6b3 : ¬ (t114 = t112) := by simpa using c6))
    clear c6
    obtain rfl := Option.some.inj H
    go_enter Tryd.func3, Tryd.ntmps3
    go_wp2_with (first | ((with_reducible refine gate_callee (f := 5) rfl ?_); refine gl_ (some 12) Tryd.func5 #[.string a0] rfl rfl rfl ?_; (with_reducible refine (spec_RightWords.calls k a0 t111 t112 _ A3.out).mono ?_); rintro e w7 ⟨rfl, hb⟩; refine ⟨_, rfl, ?_⟩; replace HB := hbs_ HB hb; (try clear hb); (try clear hb2); (try clear hk); (try clear hi)) | ((with_reducible refine gate_callee (f := 6) rfl ?_); refine gl_ (some 17) Tryd.func6 #[.string a0] rfl rfl rfl ?_; (with_reducible refine (impl_RightWords.calls k a0 t113 t114 _ A4.out (by exact LaidW.step HLw (hb_ HB))).mono ?_); rintro e w8 ⟨rfl, hb⟩; refine ⟨_, rfl, ?_⟩; replace HB := hbs_ HB hb; (try clear hb); (try clear hb2); (try clear hk); (try clear hi)))
    go_ret
    exact ⟨by first | rfl | (simp [errW_none, errW_some] <;> rfl) | (simp [*, errW_none, errW_some] <;> rfl), hb_ HB⟩
   ·rw [if_neg c6] at H
    have c6b0 : (t114 != t112) = false := by simpa using c6
    (try (have c6b1 : decide (t114 = t112) = true := by simpa using c6))
    (try (have c6b2 : (t114 == t112) = true := by simpa using c6))
    clear c6
    obtain rfl := Option.some.inj H
    go_enter Tryd.func3, Tryd.ntmps3
    go_wp2_with (first | ((with_reducible refine gate_callee (f := 5) rfl ?_); refine gl_ (some 12) Tryd.func5 #[.string a0] rfl rfl rfl ?_; (with_reducible refine (spec_RightWords.calls k a0 t111 t112 _ A3.out).mono ?_); rintro e w9 ⟨rfl, hb⟩; refine ⟨_, rfl, ?_⟩; replace HB := hbs_ HB hb; (try clear hb); (try clear hb2); (try clear hk); (try clear hi)) | ((with_reducible refine gate_callee (f := 6) rfl ?_); refine gl_ (some 17) Tryd.func6 #[.string a0] rfl rfl rfl ?_; (with_reducible refine (impl_RightWords.calls k a0 t113 t114 _ A4.out (by exact LaidW.step HLw (hb_ HB))).mono ?_); rintro e w10 ⟨rfl, hb⟩; refine ⟨_, rfl, ?_⟩; replace HB := hbs_ HB hb; (try clear hb); (try clear hb2); (try clear hk); (try clear hi)))
    go_ret
    exact ⟨by first | rfl | (simp [errW_none, errW_some] <;> rfl) | (simp [*, errW_none, errW_some] <;> rfl), hb_ HB⟩
  ·rw [if_neg c5] at H
   have c5b0 : (t113 == t111) = false := beq_eq_false_iff_ne.mpr c5
   have c5b1 : (t113 != t111) = true := bne_iff_ne.mpr c5
   obtain rfl := Option.some.inj H
   go_enter Tryd.func3, Tryd.ntmps3
   go_wp2_with (first | ((with_reducible refine gate_callee (f := 5) rfl ?_); refine gl_ (some 12) Tryd.func5 #[.string a0] rfl rfl rfl ?_; (with_reducible refine (spec_RightWords.calls k a0 t111 t112 _ A3.out).mono ?_); rintro e w11 ⟨rfl, hb⟩; refine ⟨_, rfl, ?_⟩; replace HB := hbs_ HB hb; (try clear hb); (try clear hb2); (try clear hk); (try clear hi)) | ((with_reducible refine gate_callee (f := 6) rfl ?_); refine gl_ (some 17) Tryd.func6 #[.string a0] rfl rfl rfl ?_; (with_reducible refine (impl_RightWords.calls k a0 t113 t114 _ A4.out (by exact LaidW.step HLw (hb_ HB))).mono ?_); rintro e w12 ⟨rfl, hb⟩; refine ⟨_, rfl, ?_⟩; replace HB := hbs_ HB hb; (try clear hb); (try clear hb2); (try clear hk); (try clear hi)))
   go_ret
   exact ⟨by first | rfl | (simp [errW_none, errW_some] <;> rfl) | (simp [*, errW_none, errW_some] <;> rfl), hb_ HB⟩

/-- THE ONE PURE STATEMENT of laws_FnExactRightWords: yours. -/
def laws_FnExactRightWords.Pure : Prop := ∀ (a0 : ByteArray), a0.size ≤ 140737488351232 → ∃ k, laws_FnExactRightWords.f k a0 = some true
end Go.Proofs.YtciapdgpljlciaaDoor.PFnExactRightWords
