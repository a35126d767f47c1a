-- Laid for this claim by wip/tools/print2.sh, a changed copy of the kit's print (wip/tools/patch_print.py): not by print.sh.
import Derived.Test.YtceajigggcihnaaPFnExactSortPiecesx0
import Derived.Test.YtceajigggcihnaaPFnExactSortPiecesx1
import Derived.Test.YtceajigggcihnaaPFnExactSortPiecesx2
import Derived.Test.YtceajigggcihnaaPFnExactSortPiecesx4
namespace Go.Proofs.Ytceajigggcihnaa.PFnExactSortPieces
open Go.RowKit Go.Proofs.YtceajigggcihnaaW.PrintWords Go.Proofs.YtceajigggcihnaaW.PrintLast Go.Proofs.YtceajigggcihnaaW.PrintMore
attribute [local go_sem] max2_int min2_int max_two min_two max_three min_three max_four min_four   -- for this text's walks alone
set_option linter.unusedVariables false
set_option linter.unusedSimpArgs false

/-! ### laws_FnExactSortPieces: function 6 -/
mutual
def laws_FnExactSortPieces.j0 : Nat → List (S46) → List Int → Bool → List (S29) → List Int → Bool → Bool → Option (Bool)
 | 0, _, _, _, _, _, _, _ => none
 | k + 1, x0, x4, x5, x6, x7, x8, x40 => if x40 = true then (some false) else ((laws_toPieceS.f k x0).bind fun t213 => ((laws_eqPieceS.f k x6 t213).bind fun t216 => (if t216 = true then ((laws_markPieceS.f k x6 1).bind fun bt217 => (if bt217.1 < 0 then (laws_FnExactSortPieces.j1 k x0 x4 x5 x7 true) else ((laws_eqIntS.f k x7 x4).bind fun t219 => (if t219 = true then (laws_FnExactSortPieces.j1 k x0 x4 x5 x7 (x8 != x5)) else (laws_FnExactSortPieces.j1 k x0 x4 x5 x7 true))))) else (some false))))
def laws_FnExactSortPieces.j1 : Nat → List (S46) → List Int → Bool → List Int → Bool → Option (Bool)
 | 0, _, _, _, _, _ => none
 | k + 1, x0, x4, x5, x7, x61 => if x61 = true then (some false) else ((laws_markIntS.f k x7 1).bind fun bt220 => ((laws_heldIntS.f k bt220.2 1).bind fun t222 => (if t222 < 0 then (some false) else (if t222 = bt220.1 then ((laws_toPieceS.f k x0).bind fun t223 => ((impl_SortPieces.f k t223).bind fun bt226 => ((laws_eqIntS.f k bt226.1 x4).bind fun t230 => (if t230 = true then (laws_FnExactSortPieces.j2 k bt220.2 bt220.1 (bt226.2 != x5)) else (laws_FnExactSortPieces.j2 k bt220.2 bt220.1 true))))) else (some false)))))
def laws_FnExactSortPieces.j2 : Nat → List Int → Int → Bool → Option (Bool)
 | 0, _, _, _ => none
 | k + 1, x7, x10, x87 => if x87 = true then (some false) else ((laws_heldIntS.f k x7 1).bind fun t231 => (if t231 < 0 then (some false) else (if t231 = x10 then (some true) else (some false))))
end
def laws_FnExactSortPieces.f (k : Nat) (l0 : List (S46)) : Option (Bool) := (laws_szPieceS.f l0 1048576).bind fun t197 => (if t197 < 0 then (some true) else ((laws_toPieceS.f k l0).bind fun t198 => ((spec_SortPieces.f k t198).bind fun bt201 => ((laws_toPieceS.f k l0).bind fun t205 => ((impl_SortPieces.f k t205).bind fun bt208 => ((laws_eqIntS.f k bt208.1 bt201.1).bind fun t212 => (if t212 = true then (laws_FnExactSortPieces.j0 k l0 bt201.1 bt201.2 t205 bt208.1 bt208.2 (bt208.2 != bt201.2)) else (laws_FnExactSortPieces.j0 k l0 bt201.1 bt201.2 t205 bt208.1 bt208.2 true))))))))
set_option maxHeartbeats 8000000 in
set_option maxRecDepth 100000 in
theorem laws_FnExactSortPieces.calls (k : Nat) (A0 : Option Addr) (c0 : Nat) (l0 : List (S46)) (r : Bool) (w : World) (hr0 : Kd.C k46 w A0 l0.length l0) (hc0 : l0.length ≤ c0) (h : laws_FnExactSortPieces.f k l0 = some r) :
  Calls Try.prog 6 #[.slice A0 l0.length c0] w fun e w' => e = .returned (.bool r) ∧ Below w.heap.size w w' := by
 have HR0 := Aside0.mk hr0
 have HC0 := Aside0.mk hc0
 clear hr0 hc0
 have HB := Aside0.mk (Below.refl w.heap.size w)
 have H : ((laws_szPieceS.f l0 1048576).bind fun t197 => (if t197 < 0 then (some true) else ((laws_toPieceS.f k l0).bind fun t198 => ((spec_SortPieces.f k t198).bind fun bt201 => ((laws_toPieceS.f k l0).bind fun t205 => ((impl_SortPieces.f k t205).bind fun bt208 => ((laws_eqIntS.f k bt208.1 bt201.1).bind fun t212 => (if t212 = true then (laws_FnExactSortPieces.j0 k l0 bt201.1 bt201.2 t205 bt208.1 bt208.2 (bt208.2 != bt201.2)) else (laws_FnExactSortPieces.j0 k l0 bt201.1 bt201.2 t205 bt208.1 bt208.2 true))))))))) = some r := h
 clear h
 replace H := Option.bind_eq_some_iff.mp H
 obtain ⟨t197, A20, H⟩ := H
 replace H : (if t197 < 0 then (some true) else ((laws_toPieceS.f k l0).bind fun t198 => ((spec_SortPieces.f k t198).bind fun bt201 => ((laws_toPieceS.f k l0).bind fun t205 => ((impl_SortPieces.f k t205).bind fun bt208 => ((laws_eqIntS.f k bt208.1 bt201.1).bind fun t212 => (if t212 = true then (laws_FnExactSortPieces.j0 k l0 bt201.1 bt201.2 t205 bt208.1 bt208.2 (bt208.2 != bt201.2)) else (laws_FnExactSortPieces.j0 k l0 bt201.1 bt201.2 t205 bt208.1 bt208.2 true)))))))) = some r := H
 have A2 := Aside0.mk A20
 clear A20
 by_cases c3 : t197 < 0
 ·rw [if_pos c3] at H
  have c3b0 : decide (t197 < 0) = true := decide_eq_true c3
  clear c3
  obtain rfl := Option.some.inj H
  go_enter Try.func6, Try.ntmps6
  go_wp2_with (first | ((with_reducible refine gate_callee (f := 17) rfl ?_); refine gl_ (some 16) Try.func17 #[.slice A0 l0.length c0, .int .i64 1048576] rfl rfl rfl ?_; (with_reducible refine (laws_szPieceS.calls _ _ l0 1048576 t197 _ ?side1 ?side2 A2.out).mono ?_); (case side1 => repeat (first | exact HR0.out | (with_reducible refine Kd.C_alloc ?_ _) | (with_reducible refine Kd.C_drewN ?_ _) | (with_reducible refine Kd.C_drew ?_))); (case side2 => exact HC0.out); rintro e w' ⟨rfl, ⟨nd, rfl⟩⟩; refine ⟨_, rfl, ?_⟩))
  go_ret
  exact ⟨by first | rfl | (simp [errW_none, errW_some] <;> rfl) | (simp [*, errW_none, errW_some] <;> rfl), hb_ HB⟩
 ·rw [if_neg c3] at H
  have c3b0 : decide (t197 < 0) = false := decide_eq_false c3
  clear c3
  replace H := Option.bind_eq_some_iff.mp H
  obtain ⟨t198, A40, H⟩ := H
  replace H : ((spec_SortPieces.f k t198).bind fun bt201 => ((laws_toPieceS.f k l0).bind fun t205 => ((impl_SortPieces.f k t205).bind fun bt208 => ((laws_eqIntS.f k bt208.1 bt201.1).bind fun t212 => (if t212 = true then (laws_FnExactSortPieces.j0 k l0 bt201.1 bt201.2 t205 bt208.1 bt208.2 (bt208.2 != bt201.2)) else (laws_FnExactSortPieces.j0 k l0 bt201.1 bt201.2 t205 bt208.1 bt208.2 true)))))) = some r := H
  have A4 := Aside0.mk A40
  clear A40
  replace H := Option.bind_eq_some_iff.mp H
  obtain ⟨⟨t201, t202⟩, A50, H⟩ := H
  replace H : ((laws_toPieceS.f k l0).bind fun t205 => ((impl_SortPieces.f k t205).bind fun bt208 => ((laws_eqIntS.f k bt208.1 t201).bind fun t212 => (if t212 = true then (laws_FnExactSortPieces.j0 k l0 t201 t202 t205 bt208.1 bt208.2 (bt208.2 != t202)) else (laws_FnExactSortPieces.j0 k l0 t201 t202 t205 bt208.1 bt208.2 true))))) = some r := H
  have A5 := Aside0.mk A50
  clear A50
  replace H := Option.bind_eq_some_iff.mp H
  obtain ⟨t205, A60, H⟩ := H
  replace H : ((impl_SortPieces.f k t205).bind fun bt208 => ((laws_eqIntS.f k bt208.1 t201).bind fun t212 => (if t212 = true then (laws_FnExactSortPieces.j0 k l0 t201 t202 t205 bt208.1 bt208.2 (bt208.2 != t202)) else (laws_FnExactSortPieces.j0 k l0 t201 t202 t205 bt208.1 bt208.2 true)))) = some r := H
  have A6 := Aside0.mk A60
  clear A60
  replace H := Option.bind_eq_some_iff.mp H
  obtain ⟨⟨t208, t209⟩, A70, H⟩ := H
  replace H : ((laws_eqIntS.f k t208 t201).bind fun t212 => (if t212 = true then (laws_FnExactSortPieces.j0 k l0 t201 t202 t205 t208 t209 (t209 != t202)) else (laws_FnExactSortPieces.j0 k l0 t201 t202 t205 t208 t209 true))) = some r := H
  have A7 := Aside0.mk A70
  clear A70
  have HC8 := Aside0.mk H
  clear H
  go_enter Try.func6, Try.ntmps6
  go_upto_region 8 with (first | ((with_reducible refine gate_callee (f := 17) rfl ?_); refine gl_ (some 16) Try.func17 #[.slice A0 l0.length c0, .int .i64 1048576] rfl rfl rfl ?_; (with_reducible refine (laws_szPieceS.calls _ _ l0 1048576 t197 _ ?side1 ?side2 A2.out).mono ?_); (case side1 => repeat (first | exact HR0.out | (with_reducible refine Kd.C_alloc ?_ _) | (with_reducible refine Kd.C_drewN ?_ _) | (with_reducible refine Kd.C_drew ?_))); (case side2 => exact HC0.out); rintro e w' ⟨rfl, ⟨nd, rfl⟩⟩; refine ⟨_, rfl, ?_⟩) | ((with_reducible refine gate_callee (f := 19) rfl ?_); refine gl_ (some 21) Try.func19 #[.slice A0 l0.length c0] rfl rfl rfl ?_; (with_reducible refine (laws_toPieceS.calls k _ _ l0 t198 _ ?side1 ?side2 A4.out).mono ?_); (case side1 => repeat (first | exact HR0.out | (with_reducible refine Kd.C_alloc ?_ _) | (with_reducible refine Kd.C_drewN ?_ _) | (with_reducible refine Kd.C_drew ?_))); (case side2 => exact HC0.out); rintro e w9 ⟨v199, rfl, ho0, hb⟩; refine ⟨_, rfl, ?_⟩; have HO200 := Kd.R_lo ho0 HB; replace HB := hbs_ HB hb; (try clear hb); (try clear hb2); (try clear hk); (try clear hi); (try clear ho0); obtain ⟨Ao10, co10, eo10⟩ := Kd.R_slice HO200.out; subst eo10) | ((with_reducible refine gate_callee (f := 30) rfl ?_); refine gl_ (some 22) Try.func30 #[.slice Ao10 t198.length co10] rfl rfl rfl ?_; (with_reducible refine (spec_SortPieces.calls k _ _ t198 t201 t202 _ ?side1 ?side2 A5.out).mono ?_); (case side1 => exact Kd.C_o HO200); (case side2 => exact (Kd.R_reads' HO200.out).2.1); rintro e w11 ⟨v203, rfl, ho0, hb⟩; refine ⟨_, rfl, ?_⟩; have HO204 := Kd.R_lo ho0 HB; replace HO200 := Kd.R_b HO200 hb; replace HB := hbs_ HB hb; (try clear hb); (try clear hb2); (try clear hk); (try clear hi); (try clear ho0); try clear HO200) | ((with_reducible refine gate_callee (f := 19) rfl ?_); refine gl_ (some 26) Try.func19 #[.slice A0 l0.length c0] rfl rfl rfl ?_; (with_reducible refine (laws_toPieceS.calls k _ _ l0 t205 _ ?side1 ?side2 A6.out).mono ?_); (case side1 => exact Kd.C_w HR0 HB); (case side2 => exact HC0.out); rintro e w12 ⟨v206, rfl, ho0, hb⟩; refine ⟨_, rfl, ?_⟩; have HO207 := Kd.R_lo ho0 HB; replace HO204 := Kd.R_b HO204 hb; replace HB := hbs_ HB hb; (try clear hb); (try clear hb2); (try clear hk); (try clear hi); (try clear ho0); obtain ⟨Ao13, co13, eo13⟩ := Kd.R_slice HO207.out; subst eo13) | ((with_reducible refine gate_callee (f := 31) rfl ?_); refine gl_ (some 29) Try.func31 #[.slice Ao13 t205.length co13] rfl rfl rfl ?_; (with_reducible refine (impl_SortPieces.calls k _ _ t205 t208 t209 _ ?side1 ?side2 A7.out).mono ?_); (case side1 => exact Kd.C_o HO207); (case side2 => exact (Kd.R_reads' HO207.out).2.1); rintro e w14 ⟨v210, rfl, ho0, hb⟩; refine ⟨_, rfl, ?_⟩; have HO211 := Kd.R_lo (Kd.R_nw ho0 HO204) HB; replace HO204 := Kd.R_e HO204 ho0 hb; replace HO207 := Kd.R_b HO207 hb; replace HB := hbs_ HB hb; (try clear hb); (try clear hb2); (try clear hk); (try clear hi); (try clear ho0)))
  (try simp only [Act.put, List.setIfInBounds_toArray, List.set_cons_zero, List.set_cons_succ])
  go_cut [40] (fun v40 wc => ∃ (kq : Nat) (x40_7 : Bool), v40 = .bool x40_7 ∧ Aside0 (laws_FnExactSortPieces.j0 kq l0 t201 t202 t205 t208 t209 x40_7 = some r) ∧ Aside0 (kq ≤ k) ∧ Aside0 (Kd.R (Kd.int .i64) 3 wc w.heap.size (fun k_ => some k_ ≠ (v210 : Value).ownBlock) v203 t201) ∧ Aside0 (Kd.R k29 29 wc w.heap.size (fun _ => True) (.slice Ao13 t205.length co13) t205) ∧ Aside0 (Kd.R (Kd.int .i64) 3 wc w.heap.size (fun k_ => some k_ ≠ (v203 : Value).ownBlock) v210 t208) ∧ Aside0 (Below w.heap.size w wc))
  case first =>
   have H := HC8.out
   clear HC8
   replace H := Option.bind_eq_some_iff.mp H
   obtain ⟨t212, A150, H⟩ := H
   replace H : (if t212 = true then (laws_FnExactSortPieces.j0 k l0 t201 t202 t205 t208 t209 (t209 != t202)) else (laws_FnExactSortPieces.j0 k l0 t201 t202 t205 t208 t209 true)) = some r := H
   have A15 := Aside0.mk A150
   clear A150
   by_cases c16 : t212 = true
   ·subst c16
    have H1 : (laws_FnExactSortPieces.j0 k l0 t201 t202 t205 t208 t209 (t209 != t202)) = some r := by rw [if_pos rfl] at H; exact H
    clear H
    have H := H1
    clear H1
    have H' := Aside0.mk H
    clear H
    obtain ⟨Ao17, co17, eo17⟩ := Kd.R_slice HO211.out
    subst eo17
    obtain ⟨Ao18, co18, eo18⟩ := Kd.R_slice HO204.out
    subst eo18
    go_wp2_with (first | ((with_reducible refine gate_callee (f := 26) rfl ?_); refine gl_ (some 34) Try.func26 #[.slice Ao17 t208.length co17, .slice Ao18 t201.length co18] rfl rfl rfl ?_; (with_reducible refine (laws_eqIntS.calls k _ _ t208 _ _ t201 true _ ?side1 ?side2 ?side3 ?side4 A15.out).mono ?_); (case side1 => exact Kd.C_o HO211); (case side2 => exact (Kd.R_reads' HO211.out).2.1); (case side3 => exact Kd.C_o HO204); (case side4 => exact (Kd.R_reads' HO204.out).2.1); rintro e w' ⟨rfl, ⟨nd, rfl⟩⟩; refine ⟨_, rfl, ?_⟩))
    go_meet
    case rel => exact ⟨_, ((t209 != t202)), (by first | rfl | (simp; done) | (simp [*]; done)), H', ⟨by first | omega | exact Nat.le_refl _⟩, ⟨Kd.R_pp (Kd.R_mono HO204.out (fun _ hk => hk.2))⟩, ⟨Kd.R_p HO207⟩, ⟨Kd.R_pp (Kd.R_mono HO211.out (fun _ hk => hk.2))⟩, ⟨hb_ HB⟩⟩
   ·replace c16 := Bool.eq_false_iff.mpr c16
    subst c16
    have H1 : (laws_FnExactSortPieces.j0 k l0 t201 t202 t205 t208 t209 true) = some r := by rw [if_neg (show ¬ (false = true) by decide)] at H; exact H
    clear H
    have H := H1
    clear H1
    have H' := Aside0.mk H
    clear H
    obtain ⟨Ao19, co19, eo19⟩ := Kd.R_slice HO211.out
    subst eo19
    obtain ⟨Ao20, co20, eo20⟩ := Kd.R_slice HO204.out
    subst eo20
    go_wp2_with (first | ((with_reducible refine gate_callee (f := 26) rfl ?_); refine gl_ (some 34) Try.func26 #[.slice Ao19 t208.length co19, .slice Ao20 t201.length co20] rfl rfl rfl ?_; (with_reducible refine (laws_eqIntS.calls k _ _ t208 _ _ t201 false _ ?side1 ?side2 ?side3 ?side4 A15.out).mono ?_); (case side1 => exact Kd.C_o HO211); (case side2 => exact (Kd.R_reads' HO211.out).2.1); (case side3 => exact Kd.C_o HO204); (case side4 => exact (Kd.R_reads' HO204.out).2.1); rintro e w' ⟨rfl, ⟨nd, rfl⟩⟩; refine ⟨_, rfl, ?_⟩))
    go_meet
    case rel => exact ⟨_, (true), (by first | rfl | (simp; done) | (simp [*]; done)), H', ⟨by first | omega | exact Nat.le_refl _⟩, ⟨Kd.R_pp (Kd.R_mono HO204.out (fun _ hk => hk.2))⟩, ⟨Kd.R_p HO207⟩, ⟨Kd.R_pp (Kd.R_mono HO211.out (fun _ hk => hk.2))⟩, ⟨hb_ HB⟩⟩
  case rest =>
   clear HC8
   (try clear c1); (try clear c2); (try clear p2); (try clear c3); (try clear c3b0); (try clear c6); (try clear c16); (try clear c17); (try clear c19)
   obtain ⟨kq, x40_7, rfl, HA, HJ7, HO_4, HO_6, HO_7, HB⟩ := hcut
   cases kq with
   | zero => exact absurd HA.out (by simp [laws_FnExactSortPieces.j0])
   | succ kj7 =>
    have H := HA.out
    clear HA
    simp only [laws_FnExactSortPieces.j0] at H
    by_cases c21 : x40_7 = true
    ·subst c21
     have H1 : (some false) = some r := by rw [if_pos rfl] at H; exact H
     clear H
     have H := H1
     clear H1
     obtain rfl := Option.some.inj H
     go_wp2
     go_ret
     exact ⟨by first | rfl | (simp [errW_none, errW_some] <;> rfl) | (simp [*, errW_none, errW_some] <;> rfl), hb_ HB⟩
    ·replace c21 := Bool.eq_false_iff.mpr c21
     subst c21
     have H1 : ((laws_toPieceS.f kj7 l0).bind fun t213 => ((laws_eqPieceS.f kj7 t205 t213).bind fun t216 => (if t216 = true then ((laws_markPieceS.f kj7 t205 1).bind fun bt217 => (if bt217.1 < 0 then (laws_FnExactSortPieces.j1 kj7 l0 t201 t202 t208 true) else ((laws_eqIntS.f kj7 t208 t201).bind fun t219 => (if t219 = true then (laws_FnExactSortPieces.j1 kj7 l0 t201 t202 t208 (t209 != t202)) else (laws_FnExactSortPieces.j1 kj7 l0 t201 t202 t208 true))))) else (some false)))) = some r := by rw [if_neg (show ¬ (false = true) by decide)] at H; exact H
     clear H
     have H := H1
     clear H1
     replace H := Option.bind_eq_some_iff.mp H
     obtain ⟨t213, A220, H⟩ := H
     replace H : ((laws_eqPieceS.f kj7 t205 t213).bind fun t216 => (if t216 = true then ((laws_markPieceS.f kj7 t205 1).bind fun bt217 => (if bt217.1 < 0 then (laws_FnExactSortPieces.j1 kj7 l0 t201 t202 t208 true) else ((laws_eqIntS.f kj7 t208 t201).bind fun t219 => (if t219 = true then (laws_FnExactSortPieces.j1 kj7 l0 t201 t202 t208 (t209 != t202)) else (laws_FnExactSortPieces.j1 kj7 l0 t201 t202 t208 true))))) else (some false))) = some r := H
     have A22 := Aside0.mk A220
     clear A220
     replace H := Option.bind_eq_some_iff.mp H
     obtain ⟨t216, A230, H⟩ := H
     replace H : (if t216 = true then ((laws_markPieceS.f kj7 t205 1).bind fun bt217 => (if bt217.1 < 0 then (laws_FnExactSortPieces.j1 kj7 l0 t201 t202 t208 true) else ((laws_eqIntS.f kj7 t208 t201).bind fun t219 => (if t219 = true then (laws_FnExactSortPieces.j1 kj7 l0 t201 t202 t208 (t209 != t202)) else (laws_FnExactSortPieces.j1 kj7 l0 t201 t202 t208 true))))) else (some false)) = some r := H
     have A23 := Aside0.mk A230
     clear A230
     by_cases c24 : t216 = true
     ·subst c24
      have H1 : ((laws_markPieceS.f kj7 t205 1).bind fun bt217 => (if bt217.1 < 0 then (laws_FnExactSortPieces.j1 kj7 l0 t201 t202 t208 true) else ((laws_eqIntS.f kj7 t208 t201).bind fun t219 => (if t219 = true then (laws_FnExactSortPieces.j1 kj7 l0 t201 t202 t208 (t209 != t202)) else (laws_FnExactSortPieces.j1 kj7 l0 t201 t202 t208 true))))) = some r := by rw [if_pos rfl] at H; exact H
      clear H
      have H := H1
      clear H1
      replace H := Option.bind_eq_some_iff.mp H
      obtain ⟨⟨t217, t218⟩, A250, H⟩ := H
      replace H : (if t217 < 0 then (laws_FnExactSortPieces.j1 kj7 l0 t201 t202 t208 true) else ((laws_eqIntS.f kj7 t208 t201).bind fun t219 => (if t219 = true then (laws_FnExactSortPieces.j1 kj7 l0 t201 t202 t208 (t209 != t202)) else (laws_FnExactSortPieces.j1 kj7 l0 t201 t202 t208 true)))) = some r := H
      have A25 := Aside0.mk A250
      clear A250
      have HC26 := Aside0.mk H
      clear H
      go_upto_region 14 with (first | ((with_reducible refine gate_callee (f := 19) rfl ?_); refine gl_ (some 43) Try.func19 #[.slice A0 l0.length c0] rfl rfl rfl ?_; (with_reducible refine (laws_toPieceS.calls kj7 _ _ l0 t213 _ ?side1 ?side2 A22.out).mono ?_); (case side1 => exact Kd.C_w HR0 HB); (case side2 => exact HC0.out); rintro e w27 ⟨v214, rfl, ho0, hb⟩; refine ⟨_, rfl, ?_⟩; have HO215 := Kd.R_lo (Kd.R_nw ho0 HO_6) HB; replace HO_4 := Kd.R_b HO_4 hb; replace HO_6 := Kd.R_e HO_6 ho0 hb; replace HO_7 := Kd.R_b HO_7 hb; replace HB := hbs_ HB hb; (try clear hb); (try clear hb2); (try clear hk); (try clear hi); (try clear ho0); obtain ⟨Ao28, co28, eo28⟩ := Kd.R_slice HO215.out; subst eo28) | ((with_reducible refine gate_callee (f := 21) rfl ?_); refine gl_ (some 44) Try.func21 #[.slice Ao13 t205.length co13, .slice Ao28 t213.length co28] rfl rfl rfl ?_; (with_reducible refine (laws_eqPieceS.calls kj7 _ _ t205 _ _ t213 true _ ?side1 ?side2 ?side3 ?side4 A23.out).mono ?_); (case side1 => exact Kd.C_o HO_6); (case side2 => exact (Kd.R_reads' HO_6.out).2.1); (case side3 => exact Kd.C_o HO215); (case side4 => exact (Kd.R_reads' HO215.out).2.1); rintro e w29 ⟨rfl, hb⟩; refine ⟨_, rfl, ?_⟩; replace HO_4 := Kd.R_b HO_4 hb; replace HO_6 := Kd.R_b HO_6 hb; replace HO_7 := Kd.R_b HO_7 hb; replace HO215 := Kd.R_b HO215 hb; replace HB := hbs_ HB hb; (try clear hb); (try clear hb2); (try clear hk); (try clear hi); try clear HO215) | ((with_reducible refine gate_callee (f := 28) rfl ?_); refine gl_ (some 48) Try.func28 #[.slice Ao13 t205.length co13, .int .i64 1] rfl rfl rfl ?_; (with_reducible refine (laws_markPieceS.calls kj7 (fun k_ => some k_ = (.slice Ao13 t205.length co13 : Value).ownBlock) (.slice Ao13 t205.length co13) t205 1 t217 t218 w _ ?side1 ?side2 A25.out).mono ?_); (case side1 => exact hb_ HB); (case side2 => exact Kd.R_tight rfl HO_6.out); rintro e w30 ⟨rfl, hy0, hb, hkp⟩; refine ⟨_, rfl, ?_⟩; replace HO_4 := Aside0.mk (Kd.R_mono (ok' := fun k_ => some k_ ≠ (v210 : Value).ownBlock) (Kd.R_keptB ((Kd.R_apart' HO_4.out (Kd.R_typed HO_6.out) (by decide))) hkp (fun k_ hk_ hs_ => (hk_.2) hs_)) (fun k_ hk_ => hk_.1.1)); replace HO_7 := Aside0.mk (Kd.R_mono (ok' := fun k_ => some k_ ≠ (v203 : Value).ownBlock) (Kd.R_keptB ((Kd.R_apart' HO_7.out (Kd.R_typed HO_6.out) (by decide))) hkp (fun k_ hk_ hs_ => (hk_.2) hs_)) (fun k_ hk_ => hk_.1.1)); replace HB := Aside0.mk (hb); replace HO_6 := Aside0.mk (Kd.R_reok rfl hy0 (fun k_ e_ => HO_6.out.1 k_ e_)); (try clear hb); (try clear hkp); (try clear hy0)))
      (try simp only [Act.put, List.setIfInBounds_toArray, List.set_cons_zero, List.set_cons_succ])
      go_cut [61] (fun v61 wc => ∃ (kq : Nat) (x61_25 : Bool), v61 = .bool x61_25 ∧ Aside0 (laws_FnExactSortPieces.j1 kq l0 t201 t202 t208 x61_25 = some r) ∧ Aside0 (kq ≤ kj7) ∧ Aside0 (Kd.R (Kd.int .i64) 3 wc w.heap.size (fun k_ => some k_ ≠ (v210 : Value).ownBlock) v203 t201) ∧ Aside0 (Kd.R (Kd.int .i64) 3 wc w.heap.size (fun k_ => some k_ ≠ (v203 : Value).ownBlock) v210 t208) ∧ Aside0 (Below w.heap.size w wc))
      case first =>
       have H := HC26.out
       clear HC26
       by_cases c31 : t217 < 0
       ·rw [if_pos c31] at H
        have c31b0 : decide (t217 < 0) = true := decide_eq_true c31
        clear c31
        (first | rw [c31b0] | (simp only [i64_w, i32_w]; rw [c31b0]) | skip)
        have H' := Aside0.mk H
        clear H
        go_wp2
        go_meet
        case rel => exact ⟨_, (true), (by first | rfl | (simp; done) | (simp [*]; done)), H', ⟨by have := HJ7.out; first | omega | exact Nat.le_refl _⟩, ⟨Kd.R_p HO_4⟩, ⟨Kd.R_p HO_7⟩, ⟨hb_ HB⟩⟩
       ·rw [if_neg c31] at H
        have c31b0 : decide (t217 < 0) = false := decide_eq_false c31
        clear c31
        (first | rw [c31b0] | (simp only [i64_w, i32_w]; rw [c31b0]) | skip)
        replace H := Option.bind_eq_some_iff.mp H
        obtain ⟨t219, A320, H⟩ := H
        replace H : (if t219 = true then (laws_FnExactSortPieces.j1 kj7 l0 t201 t202 t208 (t209 != t202)) else (laws_FnExactSortPieces.j1 kj7 l0 t201 t202 t208 true)) = some r := H
        have A32 := Aside0.mk A320
        clear A320
        by_cases c33 : t219 = true
        ·subst c33
         have H1 : (laws_FnExactSortPieces.j1 kj7 l0 t201 t202 t208 (t209 != t202)) = some r := by rw [if_pos rfl] at H; exact H
         clear H
         have H := H1
         clear H1
         have H' := Aside0.mk H
         clear H
         obtain ⟨Ao34, co34, eo34⟩ := Kd.R_slice HO_7.out
         subst eo34
         obtain ⟨Ao35, co35, eo35⟩ := Kd.R_slice HO_4.out
         subst eo35
         go_wp2_with (first | (go_at_call 26; (with_reducible refine (laws_eqIntS.calls kj7 _ _ t208 _ _ t201 true _ ?side1 ?side2 ?side3 ?side4 A32.out).mono ?_); (case side1 => exact Kd.C_o HO_7); (case side2 => exact (Kd.R_reads' HO_7.out).2.1); (case side3 => exact Kd.C_o HO_4); (case side4 => exact (Kd.R_reads' HO_4.out).2.1); rintro e w' ⟨rfl, ⟨nd, rfl⟩⟩))
         go_meet
         case rel => exact ⟨_, ((t209 != t202)), (by first | rfl | (simp; done) | (simp [*]; done)), H', ⟨by have := HJ7.out; first | omega | exact Nat.le_refl _⟩, ⟨Kd.R_p HO_4⟩, ⟨Kd.R_p HO_7⟩, ⟨hb_ HB⟩⟩
        ·replace c33 := Bool.eq_false_iff.mpr c33
         subst c33
         have H1 : (laws_FnExactSortPieces.j1 kj7 l0 t201 t202 t208 true) = some r := by rw [if_neg (show ¬ (false = true) by decide)] at H; exact H
         clear H
         have H := H1
         clear H1
         have H' := Aside0.mk H
         clear H
         obtain ⟨Ao36, co36, eo36⟩ := Kd.R_slice HO_7.out
         subst eo36
         obtain ⟨Ao37, co37, eo37⟩ := Kd.R_slice HO_4.out
         subst eo37
         go_wp2_with (first | (go_at_call 26; (with_reducible refine (laws_eqIntS.calls kj7 _ _ t208 _ _ t201 false _ ?side1 ?side2 ?side3 ?side4 A32.out).mono ?_); (case side1 => exact Kd.C_o HO_7); (case side2 => exact (Kd.R_reads' HO_7.out).2.1); (case side3 => exact Kd.C_o HO_4); (case side4 => exact (Kd.R_reads' HO_4.out).2.1); rintro e w' ⟨rfl, ⟨nd, rfl⟩⟩))
         go_meet
         case rel => exact ⟨_, (true), (by first | rfl | (simp; done) | (simp [*]; done)), H', ⟨by have := HJ7.out; first | omega | exact Nat.le_refl _⟩, ⟨Kd.R_p HO_4⟩, ⟨Kd.R_p HO_7⟩, ⟨hb_ HB⟩⟩
      case rest =>
       clear HC26
       (try clear c1); (try clear c2); (try clear p2); (try clear c3); (try clear c3b0); (try clear c6); (try clear c16); (try clear c17); (try clear c19); (try clear c21); (try clear c24); (try clear c26); (try clear c28); (try clear c30); (try clear c31); (try clear c31b0); (try clear c33)
       obtain ⟨kq, x61_25, rfl, HA, HJ25, HO_4, HO_7, HB⟩ := hcut
       cases kq with
       | zero => exact absurd HA.out (by simp [laws_FnExactSortPieces.j1])
       | succ kj25 =>
        have H := HA.out
        clear HA
        simp only [laws_FnExactSortPieces.j1] at H
        by_cases c38 : x61_25 = true
        ·subst c38
         have H1 : (some false) = some r := by rw [if_pos rfl] at H; exact H
         clear H
         have H := H1
         clear H1
         obtain rfl := Option.some.inj H
         go_wp2
         go_ret
         exact ⟨by first | rfl | (simp [errW_none, errW_some] <;> rfl) | (simp [*, errW_none, errW_some] <;> rfl), hb_ HB⟩
        ·replace c38 := Bool.eq_false_iff.mpr c38
         subst c38
         have H1 : ((laws_markIntS.f kj25 t208 1).bind fun bt220 => ((laws_heldIntS.f kj25 bt220.2 1).bind fun t222 => (if t222 < 0 then (some false) else (if t222 = bt220.1 then ((laws_toPieceS.f kj25 l0).bind fun t223 => ((impl_SortPieces.f kj25 t223).bind fun bt226 => ((laws_eqIntS.f kj25 bt226.1 t201).bind fun t230 => (if t230 = true then (laws_FnExactSortPieces.j2 kj25 bt220.2 bt220.1 (bt226.2 != t202)) else (laws_FnExactSortPieces.j2 kj25 bt220.2 bt220.1 true))))) else (some false))))) = some r := by rw [if_neg (show ¬ (false = true) by decide)] at H; exact H
         clear H
         have H := H1
         clear H1
         replace H := Option.bind_eq_some_iff.mp H
         obtain ⟨⟨t220, t221⟩, A390, H⟩ := H
         replace H : ((laws_heldIntS.f kj25 t221 1).bind fun t222 => (if t222 < 0 then (some false) else (if t222 = t220 then ((laws_toPieceS.f kj25 l0).bind fun t223 => ((impl_SortPieces.f kj25 t223).bind fun bt226 => ((laws_eqIntS.f kj25 bt226.1 t201).bind fun t230 => (if t230 = true then (laws_FnExactSortPieces.j2 kj25 t221 t220 (bt226.2 != t202)) else (laws_FnExactSortPieces.j2 kj25 t221 t220 true))))) else (some false)))) = some r := H
         have A39 := Aside0.mk A390
         clear A390
         replace H := Option.bind_eq_some_iff.mp H
         obtain ⟨t222, A400, H⟩ := H
         replace H : (if t222 < 0 then (some false) else (if t222 = t220 then ((laws_toPieceS.f kj25 l0).bind fun t223 => ((impl_SortPieces.f kj25 t223).bind fun bt226 => ((laws_eqIntS.f kj25 bt226.1 t201).bind fun t230 => (if t230 = true then (laws_FnExactSortPieces.j2 kj25 t221 t220 (bt226.2 != t202)) else (laws_FnExactSortPieces.j2 kj25 t221 t220 true))))) else (some false))) = some r := H
         have A40 := Aside0.mk A400
         clear A400
         by_cases c41 : t222 < 0
         ·rw [if_pos c41] at H
          have c41b0 : decide (t222 < 0) = true := decide_eq_true c41
          clear c41
          obtain rfl := Option.some.inj H
          obtain ⟨Ao42, co42, eo42⟩ := Kd.R_slice HO_7.out
          subst eo42
          go_wp2_with (first | ((with_reducible refine gate_callee (f := 27) rfl ?_); refine gl_ (some 64) Try.func27 #[.slice Ao42 t208.length co42, .int .i64 1] rfl rfl rfl ?_; (with_reducible refine (laws_markIntS.calls kj25 (fun k_ => some k_ = (.slice Ao42 t208.length co42 : Value).ownBlock) (.slice Ao42 t208.length co42) t208 1 t220 t221 w _ ?side1 ?side2 A39.out).mono ?_); (case side1 => exact hb_ HB); (case side2 => exact Kd.R_tight rfl HO_7.out); rintro e w43 ⟨rfl, hy0, hb, hkp⟩; refine ⟨_, rfl, ?_⟩; replace HO_4 := Aside0.mk (Kd.R_mono (ok' := fun k_ => some k_ ≠ (.slice Ao42 t208.length co42 : Value).ownBlock) (Kd.R_keptB (HO_4.out) hkp (fun k_ hk_ hs_ => (hk_) hs_)) (fun k_ hk_ => hk_.1)); replace HO_7 := Aside0.mk (Kd.R_reok rfl hy0 (fun k_ e_ => HO_7.out.1 k_ e_)); replace HB := Aside0.mk (hb); (try clear hb); (try clear hkp); (try clear hy0)) | ((with_reducible refine gate_callee (f := 32) rfl ?_); refine gl_ (some 67) Try.func32 #[.slice Ao42 t221.length co42, .int .i64 1] rfl rfl rfl ?_ (by (try simp only [List.map_toArray, List.map_cons, List.map_nil]); first | done | (rw [show t221.length = t208.length from (Kd.R_reads' HO_7.out).1.symm] <;> rfl) | rfl | (simp only [List.length_drop, List.length_take]; rfl)); (with_reducible refine (laws_heldIntS.calls kj25 _ _ t221 1 t222 _ ?side1 ?side2 A40.out).mono ?_); (case side1 => exact Kd.C_o HO_7); (case side2 => rw [show t221.length = t208.length from (Kd.R_reads' HO_7.out).1.symm]; exact (Kd.R_reads' HO_7.out).2.1); rintro e w' ⟨rfl, ⟨nd, rfl⟩⟩; refine ⟨_, rfl, ?_⟩))
          go_ret
          exact ⟨by first | rfl | (simp [errW_none, errW_some] <;> rfl) | (simp [*, errW_none, errW_some] <;> rfl), hb_ HB⟩
         ·rw [if_neg c41] at H
          have c41b0 : decide (t222 < 0) = false := decide_eq_false c41
          clear c41
          by_cases c44 : t222 = t220
          ·rw [if_pos c44] at H
           have c44b0 : (t222 == t220) = true := beq_iff_eq.mpr c44
           have c44b1 : (t222 != t220) = false := bne_eq_false_iff_eq.mpr c44
           clear c44
           replace H := Option.bind_eq_some_iff.mp H
           obtain ⟨t223, A450, H⟩ := H
           replace H : ((impl_SortPieces.f kj25 t223).bind fun bt226 => ((laws_eqIntS.f kj25 bt226.1 t201).bind fun t230 => (if t230 = true then (laws_FnExactSortPieces.j2 kj25 t221 t220 (bt226.2 != t202)) else (laws_FnExactSortPieces.j2 kj25 t221 t220 true)))) = some r := H
           have A45 := Aside0.mk A450
           clear A450
           replace H := Option.bind_eq_some_iff.mp H
           obtain ⟨⟨t226, t227⟩, A460, H⟩ := H
           replace H : ((laws_eqIntS.f kj25 t226 t201).bind fun t230 => (if t230 = true then (laws_FnExactSortPieces.j2 kj25 t221 t220 (t227 != t202)) else (laws_FnExactSortPieces.j2 kj25 t221 t220 true))) = some r := H
           have A46 := Aside0.mk A460
           clear A460
           have HC47 := Aside0.mk H
           clear H
           obtain ⟨Ao48, co48, eo48⟩ := Kd.R_slice HO_7.out
           subst eo48
           go_upto_region 25 with (first | ((with_reducible refine gate_callee (f := 27) rfl ?_); refine gl_ (some 64) Try.func27 #[.slice Ao48 t208.length co48, .int .i64 1] rfl rfl rfl ?_; (with_reducible refine (laws_markIntS.calls kj25 (fun k_ => some k_ = (.slice Ao48 t208.length co48 : Value).ownBlock) (.slice Ao48 t208.length co48) t208 1 t220 t221 w _ ?side1 ?side2 A39.out).mono ?_); (case side1 => exact hb_ HB); (case side2 => exact Kd.R_tight rfl HO_7.out); rintro e w49 ⟨rfl, hy0, hb, hkp⟩; refine ⟨_, rfl, ?_⟩; replace HO_4 := Aside0.mk (Kd.R_mono (ok' := fun k_ => some k_ ≠ (.slice Ao48 t208.length co48 : Value).ownBlock) (Kd.R_keptB (HO_4.out) hkp (fun k_ hk_ hs_ => (hk_) hs_)) (fun k_ hk_ => hk_.1)); replace HO_7 := Aside0.mk (Kd.R_reok rfl hy0 (fun k_ e_ => HO_7.out.1 k_ e_)); replace HB := Aside0.mk (hb); (try clear hb); (try clear hkp); (try clear hy0)) | ((with_reducible refine gate_callee (f := 32) rfl ?_); refine gl_ (some 67) Try.func32 #[.slice Ao48 t221.length co48, .int .i64 1] rfl rfl rfl ?_ (by (try simp only [List.map_toArray, List.map_cons, List.map_nil]); first | done | (rw [show t221.length = t208.length from (Kd.R_reads' HO_7.out).1.symm] <;> rfl) | rfl | (simp only [List.length_drop, List.length_take]; rfl)); (with_reducible refine (laws_heldIntS.calls kj25 _ _ t221 1 t222 _ ?side1 ?side2 A40.out).mono ?_); (case side1 => exact Kd.C_o HO_7); (case side2 => rw [show t221.length = t208.length from (Kd.R_reads' HO_7.out).1.symm]; exact (Kd.R_reads' HO_7.out).2.1); rintro e w' ⟨rfl, ⟨nd, rfl⟩⟩; refine ⟨_, rfl, ?_⟩) | ((with_reducible refine gate_callee (f := 19) rfl ?_); refine gl_ (some 75) Try.func19 #[.slice A0 l0.length c0] rfl rfl rfl ?_; (with_reducible refine (laws_toPieceS.calls kj25 _ _ l0 t223 _ ?side1 ?side2 A45.out).mono ?_); (case side1 => exact Kd.C_below HR0.out (hb_ HB)); (case side2 => exact HC0.out); rintro e w50 ⟨v224, rfl, ho0, hb⟩; refine ⟨_, rfl, ?_⟩; have HO225 := Kd.R_lo ho0 HB; replace HO_4 := Kd.R_b HO_4 hb; replace HO_7 := Kd.R_b HO_7 hb; replace HB := hbs_ HB hb; (try clear hb); (try clear hb2); (try clear hk); (try clear hi); (try clear ho0); obtain ⟨Ao51, co51, eo51⟩ := Kd.R_slice HO225.out; subst eo51) | ((with_reducible refine gate_callee (f := 31) rfl ?_); refine gl_ (some 76) Try.func31 #[.slice Ao51 t223.length co51] rfl rfl rfl ?_; (with_reducible refine (impl_SortPieces.calls kj25 _ _ t223 t226 t227 _ ?side1 ?side2 A46.out).mono ?_); (case side1 => exact Kd.C_o HO225); (case side2 => exact (Kd.R_reads' HO225.out).2.1); rintro e w52 ⟨v228, rfl, ho0, hb⟩; refine ⟨_, rfl, ?_⟩; have HO229 := Kd.R_lo (Kd.R_nw (Kd.R_nw ho0 HO_4) HO_7) HB; replace HO_4 := Kd.R_e HO_4 ho0 hb; replace HO_7 := Kd.R_e HO_7 ho0 hb; replace HO225 := Kd.R_b HO225 hb; replace HB := hbs_ HB hb; (try clear hb); (try clear hb2); (try clear hk); (try clear hi); (try clear ho0)))
           (try simp only [Act.put, List.setIfInBounds_toArray, List.set_cons_zero, List.set_cons_succ])
           go_cut [87] (fun v87 wc => ∃ (kq : Nat) (x87_46 : Bool), v87 = .bool x87_46 ∧ Aside0 (laws_FnExactSortPieces.j2 kq t221 t220 x87_46 = some r) ∧ Aside0 (kq ≤ kj25) ∧ Aside0 (Kd.R (Kd.int .i64) 3 wc w.heap.size (fun _ => True) (.slice Ao48 t208.length co48) t221) ∧ Aside0 (Below w.heap.size w wc))
           case first =>
            have H := HC47.out
            clear HC47
            replace H := Option.bind_eq_some_iff.mp H
            obtain ⟨t230, A530, H⟩ := H
            replace H : (if t230 = true then (laws_FnExactSortPieces.j2 kj25 t221 t220 (t227 != t202)) else (laws_FnExactSortPieces.j2 kj25 t221 t220 true)) = some r := H
            have A53 := Aside0.mk A530
            clear A530
            by_cases c54 : t230 = true
            ·subst c54
             have H1 : (laws_FnExactSortPieces.j2 kj25 t221 t220 (t227 != t202)) = some r := by rw [if_pos rfl] at H; exact H
             clear H
             have H := H1
             clear H1
             have H' := Aside0.mk H
             clear H
             (try clear HO225)
             obtain ⟨Ao55, co55, eo55⟩ := Kd.R_slice HO229.out
             subst eo55
             obtain ⟨Ao56, co56, eo56⟩ := Kd.R_slice HO_4.out
             subst eo56
             go_wp2_with (first | ((with_reducible refine gate_callee (f := 26) rfl ?_); refine gl_ (some 81) Try.func26 #[.slice Ao55 t226.length co55, .slice Ao56 t201.length co56] rfl rfl rfl ?_; (with_reducible refine (laws_eqIntS.calls kj25 _ _ t226 _ _ t201 true _ ?side1 ?side2 ?side3 ?side4 A53.out).mono ?_); (case side1 => exact Kd.C_o HO229); (case side2 => exact (Kd.R_reads' HO229.out).2.1); (case side3 => exact Kd.C_o HO_4); (case side4 => exact (Kd.R_reads' HO_4.out).2.1); rintro e w' ⟨rfl, ⟨nd, rfl⟩⟩; refine ⟨_, rfl, ?_⟩))
             go_meet
             case rel => exact ⟨_, ((t227 != t202)), (by first | rfl | (simp; done) | (simp [*]; done)), H', ⟨by have := HJ7.out; have := HJ25.out; first | omega | exact Nat.le_refl _⟩, ⟨Kd.R_pp (Kd.R_mono HO_7.out (fun _ hk => trivial))⟩, ⟨hb_ HB⟩⟩
            ·replace c54 := Bool.eq_false_iff.mpr c54
             subst c54
             have H1 : (laws_FnExactSortPieces.j2 kj25 t221 t220 true) = some r := by rw [if_neg (show ¬ (false = true) by decide)] at H; exact H
             clear H
             have H := H1
             clear H1
             have H' := Aside0.mk H
             clear H
             (try clear HO225)
             obtain ⟨Ao57, co57, eo57⟩ := Kd.R_slice HO229.out
             subst eo57
             obtain ⟨Ao58, co58, eo58⟩ := Kd.R_slice HO_4.out
             subst eo58
             go_wp2_with (first | ((with_reducible refine gate_callee (f := 26) rfl ?_); refine gl_ (some 81) Try.func26 #[.slice Ao57 t226.length co57, .slice Ao58 t201.length co58] rfl rfl rfl ?_; (with_reducible refine (laws_eqIntS.calls kj25 _ _ t226 _ _ t201 false _ ?side1 ?side2 ?side3 ?side4 A53.out).mono ?_); (case side1 => exact Kd.C_o HO229); (case side2 => exact (Kd.R_reads' HO229.out).2.1); (case side3 => exact Kd.C_o HO_4); (case side4 => exact (Kd.R_reads' HO_4.out).2.1); rintro e w' ⟨rfl, ⟨nd, rfl⟩⟩; refine ⟨_, rfl, ?_⟩))
             go_meet
             case rel => exact ⟨_, (true), (by first | rfl | (simp; done) | (simp [*]; done)), H', ⟨by have := HJ7.out; have := HJ25.out; first | omega | exact Nat.le_refl _⟩, ⟨Kd.R_pp (Kd.R_mono HO_7.out (fun _ hk => trivial))⟩, ⟨hb_ HB⟩⟩
           case rest =>
            clear HC47
            (try clear c1); (try clear c2); (try clear p2); (try clear c3); (try clear c3b0); (try clear c4); (try clear c5); (try clear c6); (try clear c16); (try clear c17); (try clear c19); (try clear c21); (try clear c24); (try clear c26); (try clear c27); (try clear c28); (try clear c30); (try clear c31); (try clear c31b0); (try clear c32); (try clear c33); (try clear c38); (try clear c41); (try clear c41b0); (try clear c44); (try clear c44b0); (try clear c44b1); (try clear c54)
            obtain ⟨kq, x87_46, rfl, HA, HJ46, HO_7, HB⟩ := hcut
            have hl7_46 := (Kd.R_reads' HO_7.out).1
            rw [hl7_46] at HO_7
            (try simp only [hl7_46])
            cases kq with
            | zero => exact absurd HA.out (by simp [laws_FnExactSortPieces.j2])
            | succ kj46 =>
             have H := HA.out
             clear HA
             simp only [laws_FnExactSortPieces.j2] at H
             by_cases c59 : x87_46 = true
             ·subst c59
              have H1 : (some false) = some r := by rw [if_pos rfl] at H; exact H
              clear H
              have H := H1
              clear H1
              obtain rfl := Option.some.inj H
              go_wp2
              go_ret
              exact ⟨by first | rfl | (simp [errW_none, errW_some] <;> rfl) | (simp [*, errW_none, errW_some] <;> rfl), hb_ HB⟩
             ·replace c59 := Bool.eq_false_iff.mpr c59
              subst c59
              have H1 : ((laws_heldIntS.f kj46 t221 1).bind fun t231 => (if t231 < 0 then (some false) else (if t231 = t220 then (some true) else (some false)))) = some r := by rw [if_neg (show ¬ (false = true) by decide)] at H; exact H
              clear H
              have H := H1
              clear H1
              replace H := Option.bind_eq_some_iff.mp H
              obtain ⟨t231, A600, H⟩ := H
              replace H : (if t231 < 0 then (some false) else (if t231 = t220 then (some true) else (some false))) = some r := H
              have A60 := Aside0.mk A600
              clear A600
              by_cases c61 : t231 < 0
              ·rw [if_pos c61] at H
               have c61b0 : decide (t231 < 0) = true := decide_eq_true c61
               clear c61
               obtain rfl := Option.some.inj H
               go_wp2_with (first | ((with_reducible refine gate_callee (f := 32) rfl ?_); refine gl_ (some 90) Try.func32 #[.slice Ao48 t221.length co48, .int .i64 1] rfl rfl rfl ?_; (with_reducible refine (laws_heldIntS.calls kj46 _ _ t221 1 t231 _ ?side1 ?side2 A60.out).mono ?_); (case side1 => exact Kd.C_o HO_7); (case side2 => exact (Kd.R_reads' HO_7.out).2.1); rintro e w' ⟨rfl, ⟨nd, rfl⟩⟩; refine ⟨_, rfl, ?_⟩))
               go_ret
               exact ⟨by first | rfl | (simp [errW_none, errW_some] <;> rfl) | (simp [*, errW_none, errW_some] <;> rfl), hb_ HB⟩
              ·rw [if_neg c61] at H
               have c61b0 : decide (t231 < 0) = false := decide_eq_false c61
               clear c61
               by_cases c62 : t231 = t220
               ·rw [if_pos c62] at H
                have c62b0 : (t231 == t220) = true := beq_iff_eq.mpr c62
                have c62b1 : (t231 != t220) = false := bne_eq_false_iff_eq.mpr c62
                clear c62
                obtain rfl := Option.some.inj H
                go_wp2_with (first | ((with_reducible refine gate_callee (f := 32) rfl ?_); refine gl_ (some 90) Try.func32 #[.slice Ao48 t221.length co48, .int .i64 1] rfl rfl rfl ?_; (with_reducible refine (laws_heldIntS.calls kj46 _ _ t221 1 t231 _ ?side1 ?side2 A60.out).mono ?_); (case side1 => exact Kd.C_o HO_7); (case side2 => exact (Kd.R_reads' HO_7.out).2.1); rintro e w' ⟨rfl, ⟨nd, rfl⟩⟩; refine ⟨_, rfl, ?_⟩))
                go_ret
                exact ⟨by first | rfl | (simp [errW_none, errW_some] <;> rfl) | (simp [*, errW_none, errW_some] <;> rfl), hb_ HB⟩
               ·rw [if_neg c62] at H
                have c62b0 : (t231 == t220) = false := beq_eq_false_iff_ne.mpr c62
                have c62b1 : (t231 != t220) = true := bne_iff_ne.mpr c62
                obtain rfl := Option.some.inj H
                go_wp2_with (first | ((with_reducible refine gate_callee (f := 32) rfl ?_); refine gl_ (some 90) Try.func32 #[.slice Ao48 t221.length co48, .int .i64 1] rfl rfl rfl ?_; (with_reducible refine (laws_heldIntS.calls kj46 _ _ t221 1 t231 _ ?side1 ?side2 A60.out).mono ?_); (case side1 => exact Kd.C_o HO_7); (case side2 => exact (Kd.R_reads' HO_7.out).2.1); rintro e w' ⟨rfl, ⟨nd, rfl⟩⟩; refine ⟨_, rfl, ?_⟩))
                go_ret
                exact ⟨by first | rfl | (simp [errW_none, errW_some] <;> rfl) | (simp [*, errW_none, errW_some] <;> rfl), hb_ HB⟩
          ·rw [if_neg c44] at H
           have c44b0 : (t222 == t220) = false := beq_eq_false_iff_ne.mpr c44
           have c44b1 : (t222 != t220) = true := bne_iff_ne.mpr c44
           obtain rfl := Option.some.inj H
           obtain ⟨Ao63, co63, eo63⟩ := Kd.R_slice HO_7.out
           subst eo63
           go_wp2_with (first | ((with_reducible refine gate_callee (f := 27) rfl ?_); refine gl_ (some 64) Try.func27 #[.slice Ao63 t208.length co63, .int .i64 1] rfl rfl rfl ?_; (with_reducible refine (laws_markIntS.calls kj25 (fun k_ => some k_ = (.slice Ao63 t208.length co63 : Value).ownBlock) (.slice Ao63 t208.length co63) t208 1 t220 t221 w _ ?side1 ?side2 A39.out).mono ?_); (case side1 => exact hb_ HB); (case side2 => exact Kd.R_tight rfl HO_7.out); rintro e w64 ⟨rfl, hy0, hb, hkp⟩; refine ⟨_, rfl, ?_⟩; replace HO_4 := Aside0.mk (Kd.R_mono (ok' := fun k_ => some k_ ≠ (.slice Ao63 t208.length co63 : Value).ownBlock) (Kd.R_keptB (HO_4.out) hkp (fun k_ hk_ hs_ => (hk_) hs_)) (fun k_ hk_ => hk_.1)); replace HO_7 := Aside0.mk (Kd.R_reok rfl hy0 (fun k_ e_ => HO_7.out.1 k_ e_)); replace HB := Aside0.mk (hb); (try clear hb); (try clear hkp); (try clear hy0)) | ((with_reducible refine gate_callee (f := 32) rfl ?_); refine gl_ (some 67) Try.func32 #[.slice Ao63 t221.length co63, .int .i64 1] rfl rfl rfl ?_ (by (try simp only [List.map_toArray, List.map_cons, List.map_nil]); first | done | (rw [show t221.length = t208.length from (Kd.R_reads' HO_7.out).1.symm] <;> rfl) | rfl | (simp only [List.length_drop, List.length_take]; rfl)); (with_reducible refine (laws_heldIntS.calls kj25 _ _ t221 1 t222 _ ?side1 ?side2 A40.out).mono ?_); (case side1 => exact Kd.C_o HO_7); (case side2 => rw [show t221.length = t208.length from (Kd.R_reads' HO_7.out).1.symm]; exact (Kd.R_reads' HO_7.out).2.1); rintro e w' ⟨rfl, ⟨nd, rfl⟩⟩; refine ⟨_, rfl, ?_⟩))
           go_ret
           exact ⟨by first | rfl | (simp [errW_none, errW_some] <;> rfl) | (simp [*, errW_none, errW_some] <;> rfl), hb_ HB⟩
     ·replace c24 := Bool.eq_false_iff.mpr c24
      subst c24
      have H1 : (some false) = some r := by rw [if_neg (show ¬ (false = true) by decide)] at H; exact H
      clear H
      have H := H1
      clear H1
      obtain rfl := Option.some.inj H
      go_wp2_with (first | ((with_reducible refine gate_callee (f := 19) rfl ?_); refine gl_ (some 43) Try.func19 #[.slice A0 l0.length c0] rfl rfl rfl ?_; (with_reducible refine (laws_toPieceS.calls kj7 _ _ l0 t213 _ ?side1 ?side2 A22.out).mono ?_); (case side1 => exact Kd.C_w HR0 HB); (case side2 => exact HC0.out); rintro e w65 ⟨v214, rfl, ho0, hb⟩; refine ⟨_, rfl, ?_⟩; have HO215 := Kd.R_lo (Kd.R_nw ho0 HO_6) HB; replace HO_4 := Kd.R_b HO_4 hb; replace HO_6 := Kd.R_e HO_6 ho0 hb; replace HO_7 := Kd.R_b HO_7 hb; replace HB := hbs_ HB hb; (try clear hb); (try clear hb2); (try clear hk); (try clear hi); (try clear ho0); obtain ⟨Ao66, co66, eo66⟩ := Kd.R_slice HO215.out; subst eo66) | ((with_reducible refine gate_callee (f := 21) rfl ?_); refine gl_ (some 44) Try.func21 #[.slice Ao13 t205.length co13, .slice Ao66 t213.length co66] rfl rfl rfl ?_; (with_reducible refine (laws_eqPieceS.calls kj7 _ _ t205 _ _ t213 false _ ?side1 ?side2 ?side3 ?side4 A23.out).mono ?_); (case side1 => exact Kd.C_o HO_6); (case side2 => exact (Kd.R_reads' HO_6.out).2.1); (case side3 => exact Kd.C_o HO215); (case side4 => exact (Kd.R_reads' HO215.out).2.1); rintro e w67 ⟨rfl, hb⟩; refine ⟨_, rfl, ?_⟩; replace HO_4 := Kd.R_b HO_4 hb; replace HO_6 := Kd.R_b HO_6 hb; replace HO_7 := Kd.R_b HO_7 hb; replace HO215 := Kd.R_b HO215 hb; replace HB := hbs_ HB hb; (try clear hb); (try clear hb2); (try clear hk); (try clear hi)))
      go_ret
      exact ⟨by first | rfl | (simp [errW_none, errW_some] <;> rfl) | (simp [*, errW_none, errW_some] <;> rfl), hb_ HB⟩

end Go.Proofs.Ytceajigggcihnaa.PFnExactSortPieces
