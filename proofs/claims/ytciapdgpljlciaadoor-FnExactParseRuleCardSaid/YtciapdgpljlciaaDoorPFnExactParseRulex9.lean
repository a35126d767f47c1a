-- Laid for this claim by wip/tools/print2.sh, a changed copy of the kit's print (wip/tools/patch_print.py): not by print.sh. Changed by wip/fix/laid.py.
import Derived.Test.YtciapdgpljlciaaDoorPFnExactParseRulex0
import Derived.Test.YtciapdgpljlciaaDoorPFnExactParseRulex3
import Derived.Test.YtciapdgpljlciaaDoorPFnExactParseRulex8
namespace Go.Proofs.YtciapdgpljlciaaDoor.PFnExactParseRule
open Go.RowKit Go.Proofs.YtciapdgpljlciaaDoorW.PrintWords Go.Proofs.YtciapdgpljlciaaDoorW.PrintLast Go.Proofs.YtciapdgpljlciaaDoorW.PrintMore
attribute [local go_sem] max2_int min2_int max_two min_two max_three min_three max_four min_four   -- for this text's walks alone
set_option linter.unusedVariables false
set_option linter.unusedSimpArgs false

/-! ### laws_FnExactParseRule: function 4 -/
mutual
def laws_FnExactParseRule.j0 : Nat → ByteArray → List (S42) → Bool → List (S42) → Bool → Option (Bool)
 | 0, _, _, _, _, _ => none
 | k + 1, x0, x3, x4, x5, x32 => if x32 = true then (some false) else ((laws_markPartS.f k x5 1).bind fun bt200 => ((laws_heldPartS.f k bt200.2 1).bind fun t202 => (if t202 < 0 then (some false) else (if t202 = bt200.1 then ((impl_ParseRule.f k x0).bind fun bt203 => ((laws_eqPartS.f k bt203.1 x3).bind fun t207 => (if t207 = true then (laws_FnExactParseRule.j1 k bt200.2 bt200.1 (bt203.2 != x4)) else (laws_FnExactParseRule.j1 k bt200.2 bt200.1 true)))) else (some false)))))
def laws_FnExactParseRule.j1 : Nat → List (S42) → Int → Bool → Option (Bool)
 | 0, _, _, _ => none
 | k + 1, x5, x7, x57 => if x57 = true then (some false) else ((laws_heldPartS.f k x5 1).bind fun t208 => (if t208 < 0 then (some false) else (if t208 = x7 then (some true) else (some false))))
end
def laws_FnExactParseRule.f (k : Nat) (a0 : ByteArray) : Option (Bool) := if (a0.size : Int) > 1048576 then (some true) else ((spec_ParseRule.f k a0).bind fun bt191 => ((impl_ParseRule.f k a0).bind fun bt195 => ((laws_eqPartS.f k bt195.1 bt191.1).bind fun t199 => (if t199 = true then (laws_FnExactParseRule.j0 k a0 bt191.1 bt191.2 bt195.1 (bt195.2 != bt191.2)) else (laws_FnExactParseRule.j0 k a0 bt191.1 bt191.2 bt195.1 true)))))
set_option maxHeartbeats 8000000 in
set_option maxRecDepth 100000 in
theorem laws_FnExactParseRule.calls (k : Nat) (a0 : ByteArray) (r : Bool) (w : World) (h : laws_FnExactParseRule.f k a0 = some r) (hL : LaidW w) :
  Calls Tryd.prog 4 #[.string a0] w fun e w' => e = .returned (.bool r) ∧ Below w.heap.size w w' := by
 have HLw := Aside0.mk hL
 clear hL
 have HB := Aside0.mk (Below.refl w.heap.size w)
 have H : (if (a0.size : Int) > 1048576 then (some true) else ((spec_ParseRule.f k a0).bind fun bt191 => ((impl_ParseRule.f k a0).bind fun bt195 => ((laws_eqPartS.f k bt195.1 bt191.1).bind fun t199 => (if t199 = true then (laws_FnExactParseRule.j0 k a0 bt191.1 bt191.2 bt195.1 (bt195.2 != bt191.2)) else (laws_FnExactParseRule.j0 k a0 bt191.1 bt191.2 bt195.1 true)))))) = some r := h
 clear h
 by_cases c2 : (a0.size : Int) > 1048576
 ·rw [if_pos c2] at H
  have c2b0 : decide (1048576 < (a0.size : Int)) = true := decide_eq_true c2
  have c2b1 : decide (1048576 < a0.size) = true := decide_eq_true (by omega)
  clear c2
  obtain rfl := Option.some.inj H
  go_enter Tryd.func4, Tryd.ntmps4
  go_wp2
  go_ret
  exact ⟨by first | rfl | (simp [errW_none, errW_some] <;> rfl) | (simp [*, errW_none, errW_some] <;> rfl), hb_ HB⟩
 ·rw [if_neg c2] at H
  have c2b0 : decide (1048576 < (a0.size : Int)) = false := decide_eq_false c2
  have c2b1 : decide (1048576 < a0.size) = false := decide_eq_false (by omega)
  clear c2
  replace H := Option.bind_eq_some_iff.mp H
  obtain ⟨⟨t191, t192⟩, A30, H⟩ := H
  replace H : ((impl_ParseRule.f k a0).bind fun bt195 => ((laws_eqPartS.f k bt195.1 t191).bind fun t199 => (if t199 = true then (laws_FnExactParseRule.j0 k a0 t191 t192 bt195.1 (bt195.2 != t192)) else (laws_FnExactParseRule.j0 k a0 t191 t192 bt195.1 true)))) = some r := H
  have A3 := Aside0.mk A30
  clear A30
  replace H := Option.bind_eq_some_iff.mp H
  obtain ⟨⟨t195, t196⟩, A40, H⟩ := H
  replace H : ((laws_eqPartS.f k t195 t191).bind fun t199 => (if t199 = true then (laws_FnExactParseRule.j0 k a0 t191 t192 t195 (t196 != t192)) else (laws_FnExactParseRule.j0 k a0 t191 t192 t195 true))) = some r := H
  have A4 := Aside0.mk A40
  clear A40
  have HC5 := Aside0.mk H
  clear H
  go_enter Tryd.func4, Tryd.ntmps4
  go_upto_region 5 with (first | ((with_reducible refine gate_callee (f := 7) rfl ?_); refine gl_ (some 16) Tryd.func7 #[.string a0] rfl rfl rfl ?_; (with_reducible refine (spec_ParseRule.calls k a0 t191 t192 _ A3.out).mono ?_); rintro e w6 ⟨v193, rfl, ho0, hb⟩; refine ⟨_, rfl, ?_⟩; have HO194 := Kd.R_lo ho0 HB; replace HB := hbs_ HB hb; (try clear hb); (try clear hb2); (try clear hk); (try clear hi); (try clear ho0)) | ((with_reducible refine gate_callee (f := 8) rfl ?_); refine gl_ (some 21) Tryd.func8 #[.string a0] rfl rfl rfl ?_; (with_reducible refine (impl_ParseRule.calls k a0 t195 t196 _ A4.out (by exact LaidW.step HLw (hb_ HB))).mono ?_); rintro e w7 ⟨v197, rfl, ho0, hb⟩; refine ⟨_, rfl, ?_⟩; have HO198 := Kd.R_lo (Kd.R_nw ho0 HO194) HB; replace HO194 := Kd.R_e HO194 ho0 hb; replace HB := hbs_ HB hb; (try clear hb); (try clear hb2); (try clear hk); (try clear hi); (try clear ho0)))
  (try simp only [Act.put, List.setIfInBounds_toArray, List.set_cons_zero, List.set_cons_succ])
  go_cut [32] (fun v32 wc => ∃ (kq : Nat) (x32_4 : Bool), v32 = .bool x32_4 ∧ Aside0 (laws_FnExactParseRule.j0 kq a0 t191 t192 t195 x32_4 = some r) ∧ Aside0 (kq ≤ k) ∧ Aside0 (Kd.R k42 42 wc w.heap.size (fun k_ => some k_ ≠ (v197 : Value).ownBlock) v193 t191) ∧ Aside0 (Kd.R k42 42 wc w.heap.size (fun k_ => some k_ ≠ (v193 : Value).ownBlock) v197 t195) ∧ Aside0 (Below w.heap.size w wc))
  case first =>
   have H := HC5.out
   clear HC5
   replace H := Option.bind_eq_some_iff.mp H
   obtain ⟨t199, A80, H⟩ := H
   replace H : (if t199 = true then (laws_FnExactParseRule.j0 k a0 t191 t192 t195 (t196 != t192)) else (laws_FnExactParseRule.j0 k a0 t191 t192 t195 true)) = some r := H
   have A8 := Aside0.mk A80
   clear A80
   by_cases c9 : t199 = true
   ·subst c9
    have H1 : (laws_FnExactParseRule.j0 k a0 t191 t192 t195 (t196 != t192)) = some r := by rw [if_pos rfl] at H; exact H
    clear H
    have H := H1
    clear H1
    have H' := Aside0.mk H
    clear H
    obtain ⟨Ao10, co10, eo10⟩ := Kd.R_slice HO198.out
    subst eo10
    obtain ⟨Ao11, co11, eo11⟩ := Kd.R_slice HO194.out
    subst eo11
    go_wp2_with (first | ((with_reducible refine gate_callee (f := 9) rfl ?_); refine gl_ (some 26) Tryd.func9 #[.slice Ao10 t195.length co10, .slice Ao11 t191.length co11] rfl rfl rfl ?_; (with_reducible refine (laws_eqPartS.calls k _ _ t195 _ _ t191 true _ ?side1 ?side2 ?side3 ?side4 A8.out).mono ?_); (case side1 => exact Kd.C_o HO198); (case side2 => exact (Kd.R_reads' HO198.out).2.1); (case side3 => exact Kd.C_o HO194); (case side4 => exact (Kd.R_reads' HO194.out).2.1); rintro e w12 ⟨rfl, hb⟩; refine ⟨_, rfl, ?_⟩; replace HO194 := Kd.R_b HO194 hb; replace HO198 := Kd.R_b HO198 hb; replace HB := hbs_ HB hb; (try clear hb); (try clear hb2); (try clear hk); (try clear hi)))
    go_meet
    case rel => exact ⟨_, ((t196 != t192)), (by first | rfl | (simp; done) | (simp [*]; done)), H', ⟨by first | omega | exact Nat.le_refl _⟩, ⟨Kd.R_pp (Kd.R_mono HO194.out (fun _ hk => hk.2))⟩, ⟨Kd.R_pp (Kd.R_mono HO198.out (fun _ hk => hk.2))⟩, ⟨hb_ HB⟩⟩
   ·replace c9 := Bool.eq_false_iff.mpr c9
    subst c9
    have H1 : (laws_FnExactParseRule.j0 k a0 t191 t192 t195 true) = some r := by rw [if_neg (show ¬ (false = true) by decide)] at H; exact H
    clear H
    have H := H1
    clear H1
    have H' := Aside0.mk H
    clear H
    obtain ⟨Ao13, co13, eo13⟩ := Kd.R_slice HO198.out
    subst eo13
    obtain ⟨Ao14, co14, eo14⟩ := Kd.R_slice HO194.out
    subst eo14
    go_wp2_with (first | ((with_reducible refine gate_callee (f := 9) rfl ?_); refine gl_ (some 26) Tryd.func9 #[.slice Ao13 t195.length co13, .slice Ao14 t191.length co14] rfl rfl rfl ?_; (with_reducible refine (laws_eqPartS.calls k _ _ t195 _ _ t191 false _ ?side1 ?side2 ?side3 ?side4 A8.out).mono ?_); (case side1 => exact Kd.C_o HO198); (case side2 => exact (Kd.R_reads' HO198.out).2.1); (case side3 => exact Kd.C_o HO194); (case side4 => exact (Kd.R_reads' HO194.out).2.1); rintro e w15 ⟨rfl, hb⟩; refine ⟨_, rfl, ?_⟩; replace HO194 := Kd.R_b HO194 hb; replace HO198 := Kd.R_b HO198 hb; replace HB := hbs_ HB hb; (try clear hb); (try clear hb2); (try clear hk); (try clear hi)))
    go_meet
    case rel => exact ⟨_, (true), (by first | rfl | (simp; done) | (simp [*]; done)), H', ⟨by first | omega | exact Nat.le_refl _⟩, ⟨Kd.R_pp (Kd.R_mono HO194.out (fun _ hk => hk.2))⟩, ⟨Kd.R_pp (Kd.R_mono HO198.out (fun _ hk => hk.2))⟩, ⟨hb_ HB⟩⟩
  case rest =>
   clear HC5
   (try clear c2); (try clear c2b0); (try clear c2b1); (try clear p2); (try clear c4); (try clear c7); (try clear c8); (try clear c9)
   obtain ⟨kq, x32_4, rfl, HA, HJ4, HO_3, HO_5, HB⟩ := hcut
   cases kq with
   | zero => exact absurd HA.out (by simp [laws_FnExactParseRule.j0])
   | succ kj4 =>
    have H := HA.out
    clear HA
    simp only [laws_FnExactParseRule.j0] at H
    by_cases c16 : x32_4 = true
    ·subst c16
     have H1 : (some false) = some r := by rw [if_pos rfl] at H; exact H
     clear H
     have H := H1
     clear H1
     obtain rfl := Option.some.inj H
     go_wp2
     go_ret
     exact ⟨by first | rfl | (simp [errW_none, errW_some] <;> rfl) | (simp [*, errW_none, errW_some] <;> rfl), hb_ HB⟩
    ·replace c16 := Bool.eq_false_iff.mpr c16
     subst c16
     have H1 : ((laws_markPartS.f kj4 t195 1).bind fun bt200 => ((laws_heldPartS.f kj4 bt200.2 1).bind fun t202 => (if t202 < 0 then (some false) else (if t202 = bt200.1 then ((impl_ParseRule.f kj4 a0).bind fun bt203 => ((laws_eqPartS.f kj4 bt203.1 t191).bind fun t207 => (if t207 = true then (laws_FnExactParseRule.j1 kj4 bt200.2 bt200.1 (bt203.2 != t192)) else (laws_FnExactParseRule.j1 kj4 bt200.2 bt200.1 true)))) else (some false))))) = some r := by rw [if_neg (show ¬ (false = true) by decide)] at H; exact H
     clear H
     have H := H1
     clear H1
     replace H := Option.bind_eq_some_iff.mp H
     obtain ⟨⟨t200, t201⟩, A170, H⟩ := H
     replace H : ((laws_heldPartS.f kj4 t201 1).bind fun t202 => (if t202 < 0 then (some false) else (if t202 = t200 then ((impl_ParseRule.f kj4 a0).bind fun bt203 => ((laws_eqPartS.f kj4 bt203.1 t191).bind fun t207 => (if t207 = true then (laws_FnExactParseRule.j1 kj4 t201 t200 (bt203.2 != t192)) else (laws_FnExactParseRule.j1 kj4 t201 t200 true)))) else (some false)))) = some r := H
     have A17 := Aside0.mk A170
     clear A170
     replace H := Option.bind_eq_some_iff.mp H
     obtain ⟨t202, A180, H⟩ := H
     replace H : (if t202 < 0 then (some false) else (if t202 = t200 then ((impl_ParseRule.f kj4 a0).bind fun bt203 => ((laws_eqPartS.f kj4 bt203.1 t191).bind fun t207 => (if t207 = true then (laws_FnExactParseRule.j1 kj4 t201 t200 (bt203.2 != t192)) else (laws_FnExactParseRule.j1 kj4 t201 t200 true)))) else (some false))) = some r := H
     have A18 := Aside0.mk A180
     clear A180
     by_cases c19 : t202 < 0
     ·rw [if_pos c19] at H
      have c19b0 : decide (t202 < 0) = true := decide_eq_true c19
      clear c19
      obtain rfl := Option.some.inj H
      obtain ⟨Ao20, co20, eo20⟩ := Kd.R_slice HO_5.out
      subst eo20
      go_wp2_with (first | ((with_reducible refine gate_callee (f := 10) rfl ?_); refine gl_ (some 35) Tryd.func10 #[.slice Ao20 t195.length co20, .int .i64 1] rfl rfl rfl ?_; (with_reducible refine (laws_markPartS.calls kj4 (fun k_ => some k_ = (.slice Ao20 t195.length co20 : Value).ownBlock) (.slice Ao20 t195.length co20) t195 1 t200 t201 w _ ?side1 ?side2 A17.out).mono ?_); (case side1 => exact hb_ HB); (case side2 => exact Kd.R_tight rfl HO_5.out); rintro e w21 ⟨rfl, hy0, hb, hkp⟩; refine ⟨_, rfl, ?_⟩; replace HO_3 := Aside0.mk (Kd.R_mono (ok' := fun k_ => some k_ ≠ (.slice Ao20 t195.length co20 : Value).ownBlock) (Kd.R_keptB (HO_3.out) hkp (fun k_ hk_ hs_ => (hk_) hs_)) (fun k_ hk_ => hk_.1)); replace HO_5 := Aside0.mk (Kd.R_reok rfl hy0 (fun k_ e_ => HO_5.out.1 k_ e_)); replace HB := Aside0.mk (hb); (try clear hb); (try clear hkp); (try clear hy0)) | ((with_reducible refine gate_callee (f := 11) rfl ?_); refine gl_ (some 38) Tryd.func11 #[.slice Ao20 t201.length co20, .int .i64 1] rfl rfl rfl ?_ (by (try simp only [List.map_toArray, List.map_cons, List.map_nil]); first | done | (rw [show t201.length = t195.length from (Kd.R_reads' HO_5.out).1.symm] <;> rfl) | rfl | (simp only [List.length_drop, List.length_take]; rfl)); (with_reducible refine (laws_heldPartS.calls kj4 _ _ t201 1 t202 _ ?side1 ?side2 A18.out).mono ?_); (case side1 => exact Kd.C_o HO_5); (case side2 => rw [show t201.length = t195.length from (Kd.R_reads' HO_5.out).1.symm]; exact (Kd.R_reads' HO_5.out).2.1); rintro e w' ⟨rfl, ⟨nd, rfl⟩⟩; refine ⟨_, rfl, ?_⟩))
      go_ret
      exact ⟨by first | rfl | (simp [errW_none, errW_some] <;> rfl) | (simp [*, errW_none, errW_some] <;> rfl), hb_ HB⟩
     ·rw [if_neg c19] at H
      have c19b0 : decide (t202 < 0) = false := decide_eq_false c19
      clear c19
      by_cases c22 : t202 = t200
      ·rw [if_pos c22] at H
       have c22b0 : (t202 == t200) = true := beq_iff_eq.mpr c22
       have c22b1 : (t202 != t200) = false := bne_eq_false_iff_eq.mpr c22
       clear c22
       replace H := Option.bind_eq_some_iff.mp H
       obtain ⟨⟨t203, t204⟩, A230, H⟩ := H
       replace H : ((laws_eqPartS.f kj4 t203 t191).bind fun t207 => (if t207 = true then (laws_FnExactParseRule.j1 kj4 t201 t200 (t204 != t192)) else (laws_FnExactParseRule.j1 kj4 t201 t200 true))) = some r := H
       have A23 := Aside0.mk A230
       clear A230
       have HC24 := Aside0.mk H
       clear H
       obtain ⟨Ao25, co25, eo25⟩ := Kd.R_slice HO_5.out
       subst eo25
       go_upto_region 16 with (first | ((with_reducible refine gate_callee (f := 10) rfl ?_); refine gl_ (some 35) Tryd.func10 #[.slice Ao25 t195.length co25, .int .i64 1] rfl rfl rfl ?_; (with_reducible refine (laws_markPartS.calls kj4 (fun k_ => some k_ = (.slice Ao25 t195.length co25 : Value).ownBlock) (.slice Ao25 t195.length co25) t195 1 t200 t201 w _ ?side1 ?side2 A17.out).mono ?_); (case side1 => exact hb_ HB); (case side2 => exact Kd.R_tight rfl HO_5.out); rintro e w26 ⟨rfl, hy0, hb, hkp⟩; refine ⟨_, rfl, ?_⟩; replace HO_3 := Aside0.mk (Kd.R_mono (ok' := fun k_ => some k_ ≠ (.slice Ao25 t195.length co25 : Value).ownBlock) (Kd.R_keptB (HO_3.out) hkp (fun k_ hk_ hs_ => (hk_) hs_)) (fun k_ hk_ => hk_.1)); replace HO_5 := Aside0.mk (Kd.R_reok rfl hy0 (fun k_ e_ => HO_5.out.1 k_ e_)); replace HB := Aside0.mk (hb); (try clear hb); (try clear hkp); (try clear hy0)) | ((with_reducible refine gate_callee (f := 11) rfl ?_); refine gl_ (some 38) Tryd.func11 #[.slice Ao25 t201.length co25, .int .i64 1] rfl rfl rfl ?_ (by (try simp only [List.map_toArray, List.map_cons, List.map_nil]); first | done | (rw [show t201.length = t195.length from (Kd.R_reads' HO_5.out).1.symm] <;> rfl) | rfl | (simp only [List.length_drop, List.length_take]; rfl)); (with_reducible refine (laws_heldPartS.calls kj4 _ _ t201 1 t202 _ ?side1 ?side2 A18.out).mono ?_); (case side1 => exact Kd.C_o HO_5); (case side2 => rw [show t201.length = t195.length from (Kd.R_reads' HO_5.out).1.symm]; exact (Kd.R_reads' HO_5.out).2.1); rintro e w' ⟨rfl, ⟨nd, rfl⟩⟩; refine ⟨_, rfl, ?_⟩) | ((with_reducible refine gate_callee (f := 8) rfl ?_); refine gl_ (some 46) Tryd.func8 #[.string a0] rfl rfl rfl ?_; (with_reducible refine (impl_ParseRule.calls kj4 a0 t203 t204 _ A23.out (by exact LaidW.step HLw (hb_ HB))).mono ?_); rintro e w27 ⟨v205, rfl, ho0, hb⟩; refine ⟨_, rfl, ?_⟩; have HO206 := Kd.R_lo (Kd.R_nw (Kd.R_nw ho0 HO_3) HO_5) HB; replace HO_3 := Kd.R_e HO_3 ho0 hb; replace HO_5 := Kd.R_e HO_5 ho0 hb; replace HB := hbs_ HB hb; (try clear hb); (try clear hb2); (try clear hk); (try clear hi); (try clear ho0)))
       (try simp only [Act.put, List.setIfInBounds_toArray, List.set_cons_zero, List.set_cons_succ])
       go_cut [57] (fun v57 wc => ∃ (kq : Nat) (x57_23 : Bool), v57 = .bool x57_23 ∧ Aside0 (laws_FnExactParseRule.j1 kq t201 t200 x57_23 = some r) ∧ Aside0 (kq ≤ kj4) ∧ Aside0 (Kd.R k42 42 wc w.heap.size (fun _ => True) (.slice Ao25 t195.length co25) t201) ∧ Aside0 (Below w.heap.size w wc))
       case first =>
        have H := HC24.out
        clear HC24
        replace H := Option.bind_eq_some_iff.mp H
        obtain ⟨t207, A280, H⟩ := H
        replace H : (if t207 = true then (laws_FnExactParseRule.j1 kj4 t201 t200 (t204 != t192)) else (laws_FnExactParseRule.j1 kj4 t201 t200 true)) = some r := H
        have A28 := Aside0.mk A280
        clear A280
        by_cases c29 : t207 = true
        ·subst c29
         have H1 : (laws_FnExactParseRule.j1 kj4 t201 t200 (t204 != t192)) = some r := by rw [if_pos rfl] at H; exact H
         clear H
         have H := H1
         clear H1
         have H' := Aside0.mk H
         clear H
         obtain ⟨Ao30, co30, eo30⟩ := Kd.R_slice HO206.out
         subst eo30
         obtain ⟨Ao31, co31, eo31⟩ := Kd.R_slice HO_3.out
         subst eo31
         go_wp2_with (first | ((with_reducible refine gate_callee (f := 9) rfl ?_); refine gl_ (some 51) Tryd.func9 #[.slice Ao30 t203.length co30, .slice Ao31 t191.length co31] rfl rfl rfl ?_; (with_reducible refine (laws_eqPartS.calls kj4 _ _ t203 _ _ t191 true _ ?side1 ?side2 ?side3 ?side4 A28.out).mono ?_); (case side1 => exact Kd.C_o HO206); (case side2 => exact (Kd.R_reads' HO206.out).2.1); (case side3 => exact Kd.C_o HO_3); (case side4 => exact (Kd.R_reads' HO_3.out).2.1); rintro e w32 ⟨rfl, hb⟩; refine ⟨_, rfl, ?_⟩; replace HO_3 := Kd.R_b HO_3 hb; replace HO_5 := Kd.R_b HO_5 hb; replace HO206 := Kd.R_b HO206 hb; replace HB := hbs_ HB hb; (try clear hb); (try clear hb2); (try clear hk); (try clear hi)))
         go_meet
         case rel => exact ⟨_, ((t204 != t192)), (by first | rfl | (simp; done) | (simp [*]; done)), H', ⟨by have := HJ4.out; first | omega | exact Nat.le_refl _⟩, ⟨Kd.R_pp (Kd.R_mono HO_5.out (fun _ hk => trivial))⟩, ⟨hb_ HB⟩⟩
        ·replace c29 := Bool.eq_false_iff.mpr c29
         subst c29
         have H1 : (laws_FnExactParseRule.j1 kj4 t201 t200 true) = some r := by rw [if_neg (show ¬ (false = true) by decide)] at H; exact H
         clear H
         have H := H1
         clear H1
         have H' := Aside0.mk H
         clear H
         obtain ⟨Ao33, co33, eo33⟩ := Kd.R_slice HO206.out
         subst eo33
         obtain ⟨Ao34, co34, eo34⟩ := Kd.R_slice HO_3.out
         subst eo34
         go_wp2_with (first | ((with_reducible refine gate_callee (f := 9) rfl ?_); refine gl_ (some 51) Tryd.func9 #[.slice Ao33 t203.length co33, .slice Ao34 t191.length co34] rfl rfl rfl ?_; (with_reducible refine (laws_eqPartS.calls kj4 _ _ t203 _ _ t191 false _ ?side1 ?side2 ?side3 ?side4 A28.out).mono ?_); (case side1 => exact Kd.C_o HO206); (case side2 => exact (Kd.R_reads' HO206.out).2.1); (case side3 => exact Kd.C_o HO_3); (case side4 => exact (Kd.R_reads' HO_3.out).2.1); rintro e w35 ⟨rfl, hb⟩; refine ⟨_, rfl, ?_⟩; replace HO_3 := Kd.R_b HO_3 hb; replace HO_5 := Kd.R_b HO_5 hb; replace HO206 := Kd.R_b HO206 hb; replace HB := hbs_ HB hb; (try clear hb); (try clear hb2); (try clear hk); (try clear hi)))
         go_meet
         case rel => exact ⟨_, (true), (by first | rfl | (simp; done) | (simp [*]; done)), H', ⟨by have := HJ4.out; first | omega | exact Nat.le_refl _⟩, ⟨Kd.R_pp (Kd.R_mono HO_5.out (fun _ hk => trivial))⟩, ⟨hb_ HB⟩⟩
       case rest =>
        clear HC24
        (try clear c1); (try clear c2); (try clear c2b0); (try clear c2b1); (try clear p2); (try clear c4); (try clear c7); (try clear c8); (try clear c9); (try clear c10); (try clear c11); (try clear c16); (try clear c19); (try clear c19b0); (try clear c22); (try clear c22b0); (try clear c22b1); (try clear c29)
        obtain ⟨kq, x57_23, rfl, HA, HJ23, HO_5, HB⟩ := hcut
        have hl5_23 := (Kd.R_reads' HO_5.out).1
        rw [hl5_23] at HO_5
        (try simp only [hl5_23])
        cases kq with
        | zero => exact absurd HA.out (by simp [laws_FnExactParseRule.j1])
        | succ kj23 =>
         have H := HA.out
         clear HA
         simp only [laws_FnExactParseRule.j1] at H
         by_cases c36 : x57_23 = true
         ·subst c36
          have H1 : (some false) = some r := by rw [if_pos rfl] at H; exact H
          clear H
          have H := H1
          clear H1
          obtain rfl := Option.some.inj H
          go_wp2
          go_ret
          exact ⟨by first | rfl | (simp [errW_none, errW_some] <;> rfl) | (simp [*, errW_none, errW_some] <;> rfl), hb_ HB⟩
         ·replace c36 := Bool.eq_false_iff.mpr c36
          subst c36
          have H1 : ((laws_heldPartS.f kj23 t201 1).bind fun t208 => (if t208 < 0 then (some false) else (if t208 = t200 then (some true) else (some false)))) = some r := by rw [if_neg (show ¬ (false = true) by decide)] at H; exact H
          clear H
          have H := H1
          clear H1
          replace H := Option.bind_eq_some_iff.mp H
          obtain ⟨t208, A370, H⟩ := H
          replace H : (if t208 < 0 then (some false) else (if t208 = t200 then (some true) else (some false))) = some r := H
          have A37 := Aside0.mk A370
          clear A370
          by_cases c38 : t208 < 0
          ·rw [if_pos c38] at H
           have c38b0 : decide (t208 < 0) = true := decide_eq_true c38
           clear c38
           obtain rfl := Option.some.inj H
           go_wp2_with (first | ((with_reducible refine gate_callee (f := 11) rfl ?_); refine gl_ (some 60) Tryd.func11 #[.slice Ao25 t201.length co25, .int .i64 1] rfl rfl rfl ?_; (with_reducible refine (laws_heldPartS.calls kj23 _ _ t201 1 t208 _ ?side1 ?side2 A37.out).mono ?_); (case side1 => exact Kd.C_o HO_5); (case side2 => exact (Kd.R_reads' HO_5.out).2.1); rintro e w' ⟨rfl, ⟨nd, rfl⟩⟩; refine ⟨_, rfl, ?_⟩))
           go_ret
           exact ⟨by first | rfl | (simp [errW_none, errW_some] <;> rfl) | (simp [*, errW_none, errW_some] <;> rfl), hb_ HB⟩
          ·rw [if_neg c38] at H
           have c38b0 : decide (t208 < 0) = false := decide_eq_false c38
           clear c38
           by_cases c39 : t208 = t200
           ·rw [if_pos c39] at H
            have c39b0 : (t208 == t200) = true := beq_iff_eq.mpr c39
            have c39b1 : (t208 != t200) = false := bne_eq_false_iff_eq.mpr c39
            clear c39
            obtain rfl := Option.some.inj H
            go_wp2_with (first | ((with_reducible refine gate_callee (f := 11) rfl ?_); refine gl_ (some 60) Tryd.func11 #[.slice Ao25 t201.length co25, .int .i64 1] rfl rfl rfl ?_; (with_reducible refine (laws_heldPartS.calls kj23 _ _ t201 1 t208 _ ?side1 ?side2 A37.out).mono ?_); (case side1 => exact Kd.C_o HO_5); (case side2 => exact (Kd.R_reads' HO_5.out).2.1); rintro e w' ⟨rfl, ⟨nd, rfl⟩⟩; refine ⟨_, rfl, ?_⟩))
            go_ret
            exact ⟨by first | rfl | (simp [errW_none, errW_some] <;> rfl) | (simp [*, errW_none, errW_some] <;> rfl), hb_ HB⟩
           ·rw [if_neg c39] at H
            have c39b0 : (t208 == t200) = false := beq_eq_false_iff_ne.mpr c39
            have c39b1 : (t208 != t200) = true := bne_iff_ne.mpr c39
            obtain rfl := Option.some.inj H
            go_wp2_with (first | ((with_reducible refine gate_callee (f := 11) rfl ?_); refine gl_ (some 60) Tryd.func11 #[.slice Ao25 t201.length co25, .int .i64 1] rfl rfl rfl ?_; (with_reducible refine (laws_heldPartS.calls kj23 _ _ t201 1 t208 _ ?side1 ?side2 A37.out).mono ?_); (case side1 => exact Kd.C_o HO_5); (case side2 => exact (Kd.R_reads' HO_5.out).2.1); rintro e w' ⟨rfl, ⟨nd, rfl⟩⟩; refine ⟨_, rfl, ?_⟩))
            go_ret
            exact ⟨by first | rfl | (simp [errW_none, errW_some] <;> rfl) | (simp [*, errW_none, errW_some] <;> rfl), hb_ HB⟩
      ·rw [if_neg c22] at H
       have c22b0 : (t202 == t200) = false := beq_eq_false_iff_ne.mpr c22
       have c22b1 : (t202 != t200) = true := bne_iff_ne.mpr c22
       obtain rfl := Option.some.inj H
       obtain ⟨Ao40, co40, eo40⟩ := Kd.R_slice HO_5.out
       subst eo40
       go_wp2_with (first | ((with_reducible refine gate_callee (f := 10) rfl ?_); refine gl_ (some 35) Tryd.func10 #[.slice Ao40 t195.length co40, .int .i64 1] rfl rfl rfl ?_; (with_reducible refine (laws_markPartS.calls kj4 (fun k_ => some k_ = (.slice Ao40 t195.length co40 : Value).ownBlock) (.slice Ao40 t195.length co40) t195 1 t200 t201 w _ ?side1 ?side2 A17.out).mono ?_); (case side1 => exact hb_ HB); (case side2 => exact Kd.R_tight rfl HO_5.out); rintro e w41 ⟨rfl, hy0, hb, hkp⟩; refine ⟨_, rfl, ?_⟩; replace HO_3 := Aside0.mk (Kd.R_mono (ok' := fun k_ => some k_ ≠ (.slice Ao40 t195.length co40 : Value).ownBlock) (Kd.R_keptB (HO_3.out) hkp (fun k_ hk_ hs_ => (hk_) hs_)) (fun k_ hk_ => hk_.1)); replace HO_5 := Aside0.mk (Kd.R_reok rfl hy0 (fun k_ e_ => HO_5.out.1 k_ e_)); replace HB := Aside0.mk (hb); (try clear hb); (try clear hkp); (try clear hy0)) | ((with_reducible refine gate_callee (f := 11) rfl ?_); refine gl_ (some 38) Tryd.func11 #[.slice Ao40 t201.length co40, .int .i64 1] rfl rfl rfl ?_ (by (try simp only [List.map_toArray, List.map_cons, List.map_nil]); first | done | (rw [show t201.length = t195.length from (Kd.R_reads' HO_5.out).1.symm] <;> rfl) | rfl | (simp only [List.length_drop, List.length_take]; rfl)); (with_reducible refine (laws_heldPartS.calls kj4 _ _ t201 1 t202 _ ?side1 ?side2 A18.out).mono ?_); (case side1 => exact Kd.C_o HO_5); (case side2 => rw [show t201.length = t195.length from (Kd.R_reads' HO_5.out).1.symm]; exact (Kd.R_reads' HO_5.out).2.1); rintro e w' ⟨rfl, ⟨nd, rfl⟩⟩; refine ⟨_, rfl, ?_⟩))
       go_ret
       exact ⟨by first | rfl | (simp [errW_none, errW_some] <;> rfl) | (simp [*, errW_none, errW_some] <;> rfl), hb_ HB⟩

/-- THE ONE PURE STATEMENT of laws_FnExactParseRule: yours. -/
def laws_FnExactParseRule.Pure : Prop := ∀ (a0 : ByteArray), a0.size ≤ 140737488351232 → ∃ k, laws_FnExactParseRule.f k a0 = some true
end Go.Proofs.YtciapdgpljlciaaDoor.PFnExactParseRule
