-- Laid for this claim by wip/tools/print2.sh, a changed copy of the kit's print (wip/tools/patch_print.py): not by print.sh.
import Derived.Test.YtceajigggcihnaaPFnExactBestPiecesx0
import Derived.Test.YtceajigggcihnaaPFnExactBestPiecesx1
import Derived.Test.YtceajigggcihnaaPFnExactBestPiecesx2
import Derived.Test.YtceajigggcihnaaPFnExactBestPiecesx4
import Derived.Test.YtceajigggcihnaaPFnExactBestPiecesx5
namespace Go.Proofs.Ytceajigggcihnaa.PFnExactBestPieces
open Go.RowKit Go.Proofs.YtceajigggcihnaaW.PrintWords Go.Proofs.YtceajigggcihnaaW.PrintLast Go.Proofs.YtceajigggcihnaaW.PrintMore
attribute [local go_sem] max2_int min2_int max_two min_two max_three min_three max_four min_four   -- for this text's walks alone
set_option linter.unusedVariables false
set_option linter.unusedSimpArgs false

/-! ### laws_FnExactBestPieces: function 8 -/
mutual
def laws_FnExactBestPieces.j0 : Nat → List (S46) → Int → List Int → Bool → List (S29) → List Int → Bool → Bool → Option (Bool)
 | 0, _, _, _, _, _, _, _, _ => none
 | k + 1, x0, x1, x6, x7, x8, x9, x10, x44 => if x44 = true then (some false) else ((laws_toPieceS.f k x0).bind fun t271 => ((laws_eqPieceS.f k x8 t271).bind fun t274 => (if t274 = true then ((laws_markPieceS.f k x8 1).bind fun bt275 => (if bt275.1 < 0 then (laws_FnExactBestPieces.j1 k x0 x1 x6 x7 x9 true) else ((laws_eqIntS.f k x9 x6).bind fun t277 => (if t277 = true then (laws_FnExactBestPieces.j1 k x0 x1 x6 x7 x9 (x10 != x7)) else (laws_FnExactBestPieces.j1 k x0 x1 x6 x7 x9 true))))) else (some false))))
def laws_FnExactBestPieces.j1 : Nat → List (S46) → Int → List Int → Bool → List Int → Bool → Option (Bool)
 | 0, _, _, _, _, _, _ => none
 | k + 1, x0, x1, x6, x7, x9, x65 => if x65 = true then (some false) else ((laws_markIntS.f k x9 1).bind fun bt278 => ((laws_heldIntS.f k bt278.2 1).bind fun t280 => (if t280 < 0 then (some false) else (if t280 = bt278.1 then ((laws_toPieceS.f k x0).bind fun t281 => ((impl_BestPieces.f k t281 x1).bind fun bt284 => ((laws_eqIntS.f k bt284.1 x6).bind fun t288 => (if t288 = true then (laws_FnExactBestPieces.j2 k bt278.2 bt278.1 (bt284.2 != x7)) else (laws_FnExactBestPieces.j2 k bt278.2 bt278.1 true))))) else (some false)))))
def laws_FnExactBestPieces.j2 : Nat → List Int → Int → Bool → Option (Bool)
 | 0, _, _, _ => none
 | k + 1, x9, x12, x92 => if x92 = true then (some false) else ((laws_heldIntS.f k x9 1).bind fun t289 => (if t289 < 0 then (some false) else (if t289 = x12 then (some true) else (some false))))
end
def laws_FnExactBestPieces.f (k : Nat) (l0 : List (S46)) (a1 : Int) : Option (Bool) := (laws_szPieceS.f l0 1048576).bind fun t255 => (if t255 < 0 then (some true) else ((laws_toPieceS.f k l0).bind fun t256 => ((spec_BestPieces.f k t256 a1).bind fun bt259 => ((laws_toPieceS.f k l0).bind fun t263 => ((impl_BestPieces.f k t263 a1).bind fun bt266 => ((laws_eqIntS.f k bt266.1 bt259.1).bind fun t270 => (if t270 = true then (laws_FnExactBestPieces.j0 k l0 a1 bt259.1 bt259.2 t263 bt266.1 bt266.2 (bt266.2 != bt259.2)) else (laws_FnExactBestPieces.j0 k l0 a1 bt259.1 bt259.2 t263 bt266.1 bt266.2 true))))))))
set_option maxHeartbeats 8000000 in
set_option maxRecDepth 100000 in
theorem laws_FnExactBestPieces.calls (k : Nat) (A0 : Option Addr) (c0 : Nat) (l0 : List (S46)) (a1 : Int) (r : Bool) (w : World) (hr0 : Kd.C k46 w A0 l0.length l0) (hc0 : l0.length ≤ c0) (h : laws_FnExactBestPieces.f k l0 a1 = some r) :
  Calls Try.prog 8 #[.slice A0 l0.length c0, .int .i64 a1] w fun e w' => e = .returned (.bool r) ∧ Below w.heap.size w w' := by
 have HR0 := Aside0.mk hr0
 have HC0 := Aside0.mk hc0
 clear hr0 hc0
 have HB := Aside0.mk (Below.refl w.heap.size w)
 have H : ((laws_szPieceS.f l0 1048576).bind fun t255 => (if t255 < 0 then (some true) else ((laws_toPieceS.f k l0).bind fun t256 => ((spec_BestPieces.f k t256 a1).bind fun bt259 => ((laws_toPieceS.f k l0).bind fun t263 => ((impl_BestPieces.f k t263 a1).bind fun bt266 => ((laws_eqIntS.f k bt266.1 bt259.1).bind fun t270 => (if t270 = true then (laws_FnExactBestPieces.j0 k l0 a1 bt259.1 bt259.2 t263 bt266.1 bt266.2 (bt266.2 != bt259.2)) else (laws_FnExactBestPieces.j0 k l0 a1 bt259.1 bt259.2 t263 bt266.1 bt266.2 true))))))))) = some r := h
 clear h
 replace H := Option.bind_eq_some_iff.mp H
 obtain ⟨t255, A30, H⟩ := H
 replace H : (if t255 < 0 then (some true) else ((laws_toPieceS.f k l0).bind fun t256 => ((spec_BestPieces.f k t256 a1).bind fun bt259 => ((laws_toPieceS.f k l0).bind fun t263 => ((impl_BestPieces.f k t263 a1).bind fun bt266 => ((laws_eqIntS.f k bt266.1 bt259.1).bind fun t270 => (if t270 = true then (laws_FnExactBestPieces.j0 k l0 a1 bt259.1 bt259.2 t263 bt266.1 bt266.2 (bt266.2 != bt259.2)) else (laws_FnExactBestPieces.j0 k l0 a1 bt259.1 bt259.2 t263 bt266.1 bt266.2 true)))))))) = some r := H
 have A3 := Aside0.mk A30
 clear A30
 by_cases c4 : t255 < 0
 ·rw [if_pos c4] at H
  have c4b0 : decide (t255 < 0) = true := decide_eq_true c4
  clear c4
  obtain rfl := Option.some.inj H
  go_enter Try.func8, Try.ntmps8
  go_wp2_with (first | ((with_reducible refine gate_callee (f := 17) rfl ?_); refine gl_ (some 18) Try.func17 #[.slice A0 l0.length c0, .int .i64 1048576] rfl rfl rfl ?_; (with_reducible refine (laws_szPieceS.calls _ _ l0 1048576 t255 _ ?side1 ?side2 A3.out).mono ?_); (case side1 => repeat (first | exact HR0.out | (with_reducible refine Kd.C_alloc ?_ _) | (with_reducible refine Kd.C_drewN ?_ _) | (with_reducible refine Kd.C_drew ?_))); (case side2 => exact HC0.out); rintro e w' ⟨rfl, ⟨nd, rfl⟩⟩; refine ⟨_, rfl, ?_⟩))
  go_ret
  exact ⟨by first | rfl | (simp [errW_none, errW_some] <;> rfl) | (simp [*, errW_none, errW_some] <;> rfl), hb_ HB⟩
 ·rw [if_neg c4] at H
  have c4b0 : decide (t255 < 0) = false := decide_eq_false c4
  clear c4
  replace H := Option.bind_eq_some_iff.mp H
  obtain ⟨t256, A50, H⟩ := H
  replace H : ((spec_BestPieces.f k t256 a1).bind fun bt259 => ((laws_toPieceS.f k l0).bind fun t263 => ((impl_BestPieces.f k t263 a1).bind fun bt266 => ((laws_eqIntS.f k bt266.1 bt259.1).bind fun t270 => (if t270 = true then (laws_FnExactBestPieces.j0 k l0 a1 bt259.1 bt259.2 t263 bt266.1 bt266.2 (bt266.2 != bt259.2)) else (laws_FnExactBestPieces.j0 k l0 a1 bt259.1 bt259.2 t263 bt266.1 bt266.2 true)))))) = some r := H
  have A5 := Aside0.mk A50
  clear A50
  replace H := Option.bind_eq_some_iff.mp H
  obtain ⟨⟨t259, t260⟩, A60, H⟩ := H
  replace H : ((laws_toPieceS.f k l0).bind fun t263 => ((impl_BestPieces.f k t263 a1).bind fun bt266 => ((laws_eqIntS.f k bt266.1 t259).bind fun t270 => (if t270 = true then (laws_FnExactBestPieces.j0 k l0 a1 t259 t260 t263 bt266.1 bt266.2 (bt266.2 != t260)) else (laws_FnExactBestPieces.j0 k l0 a1 t259 t260 t263 bt266.1 bt266.2 true))))) = some r := H
  have A6 := Aside0.mk A60
  clear A60
  replace H := Option.bind_eq_some_iff.mp H
  obtain ⟨t263, A70, H⟩ := H
  replace H : ((impl_BestPieces.f k t263 a1).bind fun bt266 => ((laws_eqIntS.f k bt266.1 t259).bind fun t270 => (if t270 = true then (laws_FnExactBestPieces.j0 k l0 a1 t259 t260 t263 bt266.1 bt266.2 (bt266.2 != t260)) else (laws_FnExactBestPieces.j0 k l0 a1 t259 t260 t263 bt266.1 bt266.2 true)))) = some r := H
  have A7 := Aside0.mk A70
  clear A70
  replace H := Option.bind_eq_some_iff.mp H
  obtain ⟨⟨t266, t267⟩, A80, H⟩ := H
  replace H : ((laws_eqIntS.f k t266 t259).bind fun t270 => (if t270 = true then (laws_FnExactBestPieces.j0 k l0 a1 t259 t260 t263 t266 t267 (t267 != t260)) else (laws_FnExactBestPieces.j0 k l0 a1 t259 t260 t263 t266 t267 true))) = some r := H
  have A8 := Aside0.mk A80
  clear A80
  have HC9 := Aside0.mk H
  clear H
  go_enter Try.func8, Try.ntmps8
  go_upto_region 8 with (first | ((with_reducible refine gate_callee (f := 17) rfl ?_); refine gl_ (some 18) Try.func17 #[.slice A0 l0.length c0, .int .i64 1048576] rfl rfl rfl ?_; (with_reducible refine (laws_szPieceS.calls _ _ l0 1048576 t255 _ ?side1 ?side2 A3.out).mono ?_); (case side1 => repeat (first | exact HR0.out | (with_reducible refine Kd.C_alloc ?_ _) | (with_reducible refine Kd.C_drewN ?_ _) | (with_reducible refine Kd.C_drew ?_))); (case side2 => exact HC0.out); rintro e w' ⟨rfl, ⟨nd, rfl⟩⟩; refine ⟨_, rfl, ?_⟩) | ((with_reducible refine gate_callee (f := 19) rfl ?_); refine gl_ (some 23) Try.func19 #[.slice A0 l0.length c0] rfl rfl rfl ?_; (with_reducible refine (laws_toPieceS.calls k _ _ l0 t256 _ ?side1 ?side2 A5.out).mono ?_); (case side1 => repeat (first | exact HR0.out | (with_reducible refine Kd.C_alloc ?_ _) | (with_reducible refine Kd.C_drewN ?_ _) | (with_reducible refine Kd.C_drew ?_))); (case side2 => exact HC0.out); rintro e w10 ⟨v257, rfl, ho0, hb⟩; refine ⟨_, rfl, ?_⟩; have HO258 := Kd.R_lo ho0 HB; replace HB := hbs_ HB hb; (try clear hb); (try clear hb2); (try clear hk); (try clear hi); (try clear ho0); obtain ⟨Ao11, co11, eo11⟩ := Kd.R_slice HO258.out; subst eo11) | ((with_reducible refine gate_callee (f := 37) rfl ?_); refine gl_ (some 25) Try.func37 #[.slice Ao11 t256.length co11, .int .i64 a1] rfl rfl rfl ?_; (with_reducible refine (spec_BestPieces.calls k _ _ t256 a1 t259 t260 _ ?side1 ?side2 A6.out).mono ?_); (case side1 => exact Kd.C_o HO258); (case side2 => exact (Kd.R_reads' HO258.out).2.1); rintro e w12 ⟨v261, rfl, ho0, hb⟩; refine ⟨_, rfl, ?_⟩; have HO262 := Kd.R_lo ho0 HB; replace HO258 := Kd.R_b HO258 hb; replace HB := hbs_ HB hb; (try clear hb); (try clear hb2); (try clear hk); (try clear hi); (try clear ho0); try clear HO258) | ((with_reducible refine gate_callee (f := 19) rfl ?_); refine gl_ (some 29) Try.func19 #[.slice A0 l0.length c0] rfl rfl rfl ?_; (with_reducible refine (laws_toPieceS.calls k _ _ l0 t263 _ ?side1 ?side2 A7.out).mono ?_); (case side1 => exact Kd.C_w HR0 HB); (case side2 => exact HC0.out); rintro e w13 ⟨v264, rfl, ho0, hb⟩; refine ⟨_, rfl, ?_⟩; have HO265 := Kd.R_lo ho0 HB; replace HO262 := Kd.R_b HO262 hb; replace HB := hbs_ HB hb; (try clear hb); (try clear hb2); (try clear hk); (try clear hi); (try clear ho0); obtain ⟨Ao14, co14, eo14⟩ := Kd.R_slice HO265.out; subst eo14) | ((with_reducible refine gate_callee (f := 38) rfl ?_); refine gl_ (some 33) Try.func38 #[.slice Ao14 t263.length co14, .int .i64 a1] rfl rfl rfl ?_; (with_reducible refine (impl_BestPieces.calls k _ _ t263 a1 t266 t267 _ ?side1 ?side2 A8.out).mono ?_); (case side1 => exact Kd.C_o HO265); (case side2 => exact (Kd.R_reads' HO265.out).2.1); rintro e w15 ⟨v268, rfl, ho0, hb⟩; refine ⟨_, rfl, ?_⟩; have HO269 := Kd.R_lo (Kd.R_nw ho0 HO262) HB; replace HO262 := Kd.R_e HO262 ho0 hb; replace HO265 := Kd.R_b HO265 hb; replace HB := hbs_ HB hb; (try clear hb); (try clear hb2); (try clear hk); (try clear hi); (try clear ho0)))
  (try simp only [Act.put, List.setIfInBounds_toArray, List.set_cons_zero, List.set_cons_succ])
  go_cut [44] (fun v44 wc => ∃ (kq : Nat) (x44_8 : Bool), v44 = .bool x44_8 ∧ Aside0 (laws_FnExactBestPieces.j0 kq l0 a1 t259 t260 t263 t266 t267 x44_8 = some r) ∧ Aside0 (kq ≤ k) ∧ Aside0 (Kd.R (Kd.int .i64) 3 wc w.heap.size (fun k_ => some k_ ≠ (v268 : Value).ownBlock) v261 t259) ∧ Aside0 (Kd.R k29 29 wc w.heap.size (fun _ => True) (.slice Ao14 t263.length co14) t263) ∧ Aside0 (Kd.R (Kd.int .i64) 3 wc w.heap.size (fun k_ => some k_ ≠ (v261 : Value).ownBlock) v268 t266) ∧ Aside0 (Below w.heap.size w wc))
  case first =>
   have H := HC9.out
   clear HC9
   replace H := Option.bind_eq_some_iff.mp H
   obtain ⟨t270, A160, H⟩ := H
   replace H : (if t270 = true then (laws_FnExactBestPieces.j0 k l0 a1 t259 t260 t263 t266 t267 (t267 != t260)) else (laws_FnExactBestPieces.j0 k l0 a1 t259 t260 t263 t266 t267 true)) = some r := H
   have A16 := Aside0.mk A160
   clear A160
   by_cases c17 : t270 = true
   ·subst c17
    have H1 : (laws_FnExactBestPieces.j0 k l0 a1 t259 t260 t263 t266 t267 (t267 != t260)) = some r := by rw [if_pos rfl] at H; exact H
    clear H
    have H := H1
    clear H1
    have H' := Aside0.mk H
    clear H
    obtain ⟨Ao18, co18, eo18⟩ := Kd.R_slice HO269.out
    subst eo18
    obtain ⟨Ao19, co19, eo19⟩ := Kd.R_slice HO262.out
    subst eo19
    go_wp2_with (first | ((with_reducible refine gate_callee (f := 26) rfl ?_); refine gl_ (some 38) Try.func26 #[.slice Ao18 t266.length co18, .slice Ao19 t259.length co19] rfl rfl rfl ?_; (with_reducible refine (laws_eqIntS.calls k _ _ t266 _ _ t259 true _ ?side1 ?side2 ?side3 ?side4 A16.out).mono ?_); (case side1 => exact Kd.C_o HO269); (case side2 => exact (Kd.R_reads' HO269.out).2.1); (case side3 => exact Kd.C_o HO262); (case side4 => exact (Kd.R_reads' HO262.out).2.1); rintro e w' ⟨rfl, ⟨nd, rfl⟩⟩; refine ⟨_, rfl, ?_⟩))
    go_meet
    case rel => exact ⟨_, ((t267 != t260)), (by first | rfl | (simp; done) | (simp [*]; done)), H', ⟨by first | omega | exact Nat.le_refl _⟩, ⟨Kd.R_pp (Kd.R_mono HO262.out (fun _ hk => hk.2))⟩, ⟨Kd.R_p HO265⟩, ⟨Kd.R_pp (Kd.R_mono HO269.out (fun _ hk => hk.2))⟩, ⟨hb_ HB⟩⟩
   ·replace c17 := Bool.eq_false_iff.mpr c17
    subst c17
    have H1 : (laws_FnExactBestPieces.j0 k l0 a1 t259 t260 t263 t266 t267 true) = some r := by rw [if_neg (show ¬ (false = true) by decide)] at H; exact H
    clear H
    have H := H1
    clear H1
    have H' := Aside0.mk H
    clear H
    obtain ⟨Ao20, co20, eo20⟩ := Kd.R_slice HO269.out
    subst eo20
    obtain ⟨Ao21, co21, eo21⟩ := Kd.R_slice HO262.out
    subst eo21
    go_wp2_with (first | ((with_reducible refine gate_callee (f := 26) rfl ?_); refine gl_ (some 38) Try.func26 #[.slice Ao20 t266.length co20, .slice Ao21 t259.length co21] rfl rfl rfl ?_; (with_reducible refine (laws_eqIntS.calls k _ _ t266 _ _ t259 false _ ?side1 ?side2 ?side3 ?side4 A16.out).mono ?_); (case side1 => exact Kd.C_o HO269); (case side2 => exact (Kd.R_reads' HO269.out).2.1); (case side3 => exact Kd.C_o HO262); (case side4 => exact (Kd.R_reads' HO262.out).2.1); rintro e w' ⟨rfl, ⟨nd, rfl⟩⟩; refine ⟨_, rfl, ?_⟩))
    go_meet
    case rel => exact ⟨_, (true), (by first | rfl | (simp; done) | (simp [*]; done)), H', ⟨by first | omega | exact Nat.le_refl _⟩, ⟨Kd.R_pp (Kd.R_mono HO262.out (fun _ hk => hk.2))⟩, ⟨Kd.R_p HO265⟩, ⟨Kd.R_pp (Kd.R_mono HO269.out (fun _ hk => hk.2))⟩, ⟨hb_ HB⟩⟩
  case rest =>
   clear HC9
   (try clear c1); (try clear c2); (try clear p2); (try clear c3); (try clear c4); (try clear c4b0); (try clear c8); (try clear c17); (try clear c19)
   obtain ⟨kq, x44_8, rfl, HA, HJ8, HO_6, HO_8, HO_9, HB⟩ := hcut
   cases kq with
   | zero => exact absurd HA.out (by simp [laws_FnExactBestPieces.j0])
   | succ kj8 =>
    have H := HA.out
    clear HA
    simp only [laws_FnExactBestPieces.j0] at H
    by_cases c22 : x44_8 = true
    ·subst c22
     have H1 : (some false) = some r := by rw [if_pos rfl] at H; exact H
     clear H
     have H := H1
     clear H1
     obtain rfl := Option.some.inj H
     go_wp2
     go_ret
     exact ⟨by first | rfl | (simp [errW_none, errW_some] <;> rfl) | (simp [*, errW_none, errW_some] <;> rfl), hb_ HB⟩
    ·replace c22 := Bool.eq_false_iff.mpr c22
     subst c22
     have H1 : ((laws_toPieceS.f kj8 l0).bind fun t271 => ((laws_eqPieceS.f kj8 t263 t271).bind fun t274 => (if t274 = true then ((laws_markPieceS.f kj8 t263 1).bind fun bt275 => (if bt275.1 < 0 then (laws_FnExactBestPieces.j1 kj8 l0 a1 t259 t260 t266 true) else ((laws_eqIntS.f kj8 t266 t259).bind fun t277 => (if t277 = true then (laws_FnExactBestPieces.j1 kj8 l0 a1 t259 t260 t266 (t267 != t260)) else (laws_FnExactBestPieces.j1 kj8 l0 a1 t259 t260 t266 true))))) else (some false)))) = some r := by rw [if_neg (show ¬ (false = true) by decide)] at H; exact H
     clear H
     have H := H1
     clear H1
     replace H := Option.bind_eq_some_iff.mp H
     obtain ⟨t271, A230, H⟩ := H
     replace H : ((laws_eqPieceS.f kj8 t263 t271).bind fun t274 => (if t274 = true then ((laws_markPieceS.f kj8 t263 1).bind fun bt275 => (if bt275.1 < 0 then (laws_FnExactBestPieces.j1 kj8 l0 a1 t259 t260 t266 true) else ((laws_eqIntS.f kj8 t266 t259).bind fun t277 => (if t277 = true then (laws_FnExactBestPieces.j1 kj8 l0 a1 t259 t260 t266 (t267 != t260)) else (laws_FnExactBestPieces.j1 kj8 l0 a1 t259 t260 t266 true))))) else (some false))) = some r := H
     have A23 := Aside0.mk A230
     clear A230
     replace H := Option.bind_eq_some_iff.mp H
     obtain ⟨t274, A240, H⟩ := H
     replace H : (if t274 = true then ((laws_markPieceS.f kj8 t263 1).bind fun bt275 => (if bt275.1 < 0 then (laws_FnExactBestPieces.j1 kj8 l0 a1 t259 t260 t266 true) else ((laws_eqIntS.f kj8 t266 t259).bind fun t277 => (if t277 = true then (laws_FnExactBestPieces.j1 kj8 l0 a1 t259 t260 t266 (t267 != t260)) else (laws_FnExactBestPieces.j1 kj8 l0 a1 t259 t260 t266 true))))) else (some false)) = some r := H
     have A24 := Aside0.mk A240
     clear A240
     by_cases c25 : t274 = true
     ·subst c25
      have H1 : ((laws_markPieceS.f kj8 t263 1).bind fun bt275 => (if bt275.1 < 0 then (laws_FnExactBestPieces.j1 kj8 l0 a1 t259 t260 t266 true) else ((laws_eqIntS.f kj8 t266 t259).bind fun t277 => (if t277 = true then (laws_FnExactBestPieces.j1 kj8 l0 a1 t259 t260 t266 (t267 != t260)) else (laws_FnExactBestPieces.j1 kj8 l0 a1 t259 t260 t266 true))))) = some r := by rw [if_pos rfl] at H; exact H
      clear H
      have H := H1
      clear H1
      replace H := Option.bind_eq_some_iff.mp H
      obtain ⟨⟨t275, t276⟩, A260, H⟩ := H
      replace H : (if t275 < 0 then (laws_FnExactBestPieces.j1 kj8 l0 a1 t259 t260 t266 true) else ((laws_eqIntS.f kj8 t266 t259).bind fun t277 => (if t277 = true then (laws_FnExactBestPieces.j1 kj8 l0 a1 t259 t260 t266 (t267 != t260)) else (laws_FnExactBestPieces.j1 kj8 l0 a1 t259 t260 t266 true)))) = some r := H
      have A26 := Aside0.mk A260
      clear A260
      have HC27 := Aside0.mk H
      clear H
      go_upto_region 14 with (first | ((with_reducible refine gate_callee (f := 19) rfl ?_); refine gl_ (some 47) Try.func19 #[.slice A0 l0.length c0] rfl rfl rfl ?_; (with_reducible refine (laws_toPieceS.calls kj8 _ _ l0 t271 _ ?side1 ?side2 A23.out).mono ?_); (case side1 => exact Kd.C_w HR0 HB); (case side2 => exact HC0.out); rintro e w28 ⟨v272, rfl, ho0, hb⟩; refine ⟨_, rfl, ?_⟩; have HO273 := Kd.R_lo (Kd.R_nw ho0 HO_8) HB; replace HO_6 := Kd.R_b HO_6 hb; replace HO_8 := Kd.R_e HO_8 ho0 hb; replace HO_9 := Kd.R_b HO_9 hb; replace HB := hbs_ HB hb; (try clear hb); (try clear hb2); (try clear hk); (try clear hi); (try clear ho0); obtain ⟨Ao29, co29, eo29⟩ := Kd.R_slice HO273.out; subst eo29) | ((with_reducible refine gate_callee (f := 21) rfl ?_); refine gl_ (some 48) Try.func21 #[.slice Ao14 t263.length co14, .slice Ao29 t271.length co29] rfl rfl rfl ?_; (with_reducible refine (laws_eqPieceS.calls kj8 _ _ t263 _ _ t271 true _ ?side1 ?side2 ?side3 ?side4 A24.out).mono ?_); (case side1 => exact Kd.C_o HO_8); (case side2 => exact (Kd.R_reads' HO_8.out).2.1); (case side3 => exact Kd.C_o HO273); (case side4 => exact (Kd.R_reads' HO273.out).2.1); rintro e w30 ⟨rfl, hb⟩; refine ⟨_, rfl, ?_⟩; replace HO_6 := Kd.R_b HO_6 hb; replace HO_8 := Kd.R_b HO_8 hb; replace HO_9 := Kd.R_b HO_9 hb; replace HO273 := Kd.R_b HO273 hb; replace HB := hbs_ HB hb; (try clear hb); (try clear hb2); (try clear hk); (try clear hi); try clear HO273) | ((with_reducible refine gate_callee (f := 28) rfl ?_); refine gl_ (some 52) Try.func28 #[.slice Ao14 t263.length co14, .int .i64 1] rfl rfl rfl ?_; (with_reducible refine (laws_markPieceS.calls kj8 (fun k_ => some k_ = (.slice Ao14 t263.length co14 : Value).ownBlock) (.slice Ao14 t263.length co14) t263 1 t275 t276 w _ ?side1 ?side2 A26.out).mono ?_); (case side1 => exact hb_ HB); (case side2 => exact Kd.R_tight rfl HO_8.out); rintro e w31 ⟨rfl, hy0, hb, hkp⟩; refine ⟨_, rfl, ?_⟩; replace HO_6 := Aside0.mk (Kd.R_mono (ok' := fun k_ => some k_ ≠ (v268 : Value).ownBlock) (Kd.R_keptB ((Kd.R_apart' HO_6.out (Kd.R_typed HO_8.out) (by decide))) hkp (fun k_ hk_ hs_ => (hk_.2) hs_)) (fun k_ hk_ => hk_.1.1)); replace HO_9 := Aside0.mk (Kd.R_mono (ok' := fun k_ => some k_ ≠ (v261 : Value).ownBlock) (Kd.R_keptB ((Kd.R_apart' HO_9.out (Kd.R_typed HO_8.out) (by decide))) hkp (fun k_ hk_ hs_ => (hk_.2) hs_)) (fun k_ hk_ => hk_.1.1)); replace HB := Aside0.mk (hb); replace HO_8 := Aside0.mk (Kd.R_reok rfl hy0 (fun k_ e_ => HO_8.out.1 k_ e_)); (try clear hb); (try clear hkp); (try clear hy0)))
      (try simp only [Act.put, List.setIfInBounds_toArray, List.set_cons_zero, List.set_cons_succ])
      go_cut [65] (fun v65 wc => ∃ (kq : Nat) (x65_26 : Bool), v65 = .bool x65_26 ∧ Aside0 (laws_FnExactBestPieces.j1 kq l0 a1 t259 t260 t266 x65_26 = some r) ∧ Aside0 (kq ≤ kj8) ∧ Aside0 (Kd.R (Kd.int .i64) 3 wc w.heap.size (fun k_ => some k_ ≠ (v268 : Value).ownBlock) v261 t259) ∧ Aside0 (Kd.R (Kd.int .i64) 3 wc w.heap.size (fun k_ => some k_ ≠ (v261 : Value).ownBlock) v268 t266) ∧ Aside0 (Below w.heap.size w wc))
      case first =>
       have H := HC27.out
       clear HC27
       by_cases c32 : t275 < 0
       ·rw [if_pos c32] at H
        have c32b0 : decide (t275 < 0) = true := decide_eq_true c32
        clear c32
        (first | rw [c32b0] | (simp only [i64_w, i32_w]; rw [c32b0]) | skip)
        have H' := Aside0.mk H
        clear H
        go_wp2
        go_meet
        case rel => exact ⟨_, (true), (by first | rfl | (simp; done) | (simp [*]; done)), H', ⟨by have := HJ8.out; first | omega | exact Nat.le_refl _⟩, ⟨Kd.R_p HO_6⟩, ⟨Kd.R_p HO_9⟩, ⟨hb_ HB⟩⟩
       ·rw [if_neg c32] at H
        have c32b0 : decide (t275 < 0) = false := decide_eq_false c32
        clear c32
        (first | rw [c32b0] | (simp only [i64_w, i32_w]; rw [c32b0]) | skip)
        replace H := Option.bind_eq_some_iff.mp H
        obtain ⟨t277, A330, H⟩ := H
        replace H : (if t277 = true then (laws_FnExactBestPieces.j1 kj8 l0 a1 t259 t260 t266 (t267 != t260)) else (laws_FnExactBestPieces.j1 kj8 l0 a1 t259 t260 t266 true)) = some r := H
        have A33 := Aside0.mk A330
        clear A330
        by_cases c34 : t277 = true
        ·subst c34
         have H1 : (laws_FnExactBestPieces.j1 kj8 l0 a1 t259 t260 t266 (t267 != t260)) = some r := by rw [if_pos rfl] at H; exact H
         clear H
         have H := H1
         clear H1
         have H' := Aside0.mk H
         clear H
         obtain ⟨Ao35, co35, eo35⟩ := Kd.R_slice HO_9.out
         subst eo35
         obtain ⟨Ao36, co36, eo36⟩ := Kd.R_slice HO_6.out
         subst eo36
         go_wp2_with (first | (go_at_call 26; (with_reducible refine (laws_eqIntS.calls kj8 _ _ t266 _ _ t259 true _ ?side1 ?side2 ?side3 ?side4 A33.out).mono ?_); (case side1 => exact Kd.C_o HO_9); (case side2 => exact (Kd.R_reads' HO_9.out).2.1); (case side3 => exact Kd.C_o HO_6); (case side4 => exact (Kd.R_reads' HO_6.out).2.1); rintro e w' ⟨rfl, ⟨nd, rfl⟩⟩))
         go_meet
         case rel => exact ⟨_, ((t267 != t260)), (by first | rfl | (simp; done) | (simp [*]; done)), H', ⟨by have := HJ8.out; first | omega | exact Nat.le_refl _⟩, ⟨Kd.R_p HO_6⟩, ⟨Kd.R_p HO_9⟩, ⟨hb_ HB⟩⟩
        ·replace c34 := Bool.eq_false_iff.mpr c34
         subst c34
         have H1 : (laws_FnExactBestPieces.j1 kj8 l0 a1 t259 t260 t266 true) = some r := by rw [if_neg (show ¬ (false = true) by decide)] at H; exact H
         clear H
         have H := H1
         clear H1
         have H' := Aside0.mk H
         clear H
         obtain ⟨Ao37, co37, eo37⟩ := Kd.R_slice HO_9.out
         subst eo37
         obtain ⟨Ao38, co38, eo38⟩ := Kd.R_slice HO_6.out
         subst eo38
         go_wp2_with (first | (go_at_call 26; (with_reducible refine (laws_eqIntS.calls kj8 _ _ t266 _ _ t259 false _ ?side1 ?side2 ?side3 ?side4 A33.out).mono ?_); (case side1 => exact Kd.C_o HO_9); (case side2 => exact (Kd.R_reads' HO_9.out).2.1); (case side3 => exact Kd.C_o HO_6); (case side4 => exact (Kd.R_reads' HO_6.out).2.1); rintro e w' ⟨rfl, ⟨nd, rfl⟩⟩))
         go_meet
         case rel => exact ⟨_, (true), (by first | rfl | (simp; done) | (simp [*]; done)), H', ⟨by have := HJ8.out; first | omega | exact Nat.le_refl _⟩, ⟨Kd.R_p HO_6⟩, ⟨Kd.R_p HO_9⟩, ⟨hb_ HB⟩⟩
      case rest =>
       clear HC27
       (try clear c1); (try clear c2); (try clear p2); (try clear c3); (try clear c4); (try clear c4b0); (try clear c8); (try clear c17); (try clear c19); (try clear c21); (try clear c22); (try clear c25); (try clear c26); (try clear c28); (try clear c32); (try clear c32b0); (try clear c34); (try clear c37); (try clear c38)
       obtain ⟨kq, x65_26, rfl, HA, HJ26, HO_6, HO_9, HB⟩ := hcut
       cases kq with
       | zero => exact absurd HA.out (by simp [laws_FnExactBestPieces.j1])
       | succ kj26 =>
        have H := HA.out
        clear HA
        simp only [laws_FnExactBestPieces.j1] at H
        by_cases c39 : x65_26 = true
        ·subst c39
         have H1 : (some false) = some r := by rw [if_pos rfl] at H; exact H
         clear H
         have H := H1
         clear H1
         obtain rfl := Option.some.inj H
         go_wp2
         go_ret
         exact ⟨by first | rfl | (simp [errW_none, errW_some] <;> rfl) | (simp [*, errW_none, errW_some] <;> rfl), hb_ HB⟩
        ·replace c39 := Bool.eq_false_iff.mpr c39
         subst c39
         have H1 : ((laws_markIntS.f kj26 t266 1).bind fun bt278 => ((laws_heldIntS.f kj26 bt278.2 1).bind fun t280 => (if t280 < 0 then (some false) else (if t280 = bt278.1 then ((laws_toPieceS.f kj26 l0).bind fun t281 => ((impl_BestPieces.f kj26 t281 a1).bind fun bt284 => ((laws_eqIntS.f kj26 bt284.1 t259).bind fun t288 => (if t288 = true then (laws_FnExactBestPieces.j2 kj26 bt278.2 bt278.1 (bt284.2 != t260)) else (laws_FnExactBestPieces.j2 kj26 bt278.2 bt278.1 true))))) else (some false))))) = some r := by rw [if_neg (show ¬ (false = true) by decide)] at H; exact H
         clear H
         have H := H1
         clear H1
         replace H := Option.bind_eq_some_iff.mp H
         obtain ⟨⟨t278, t279⟩, A400, H⟩ := H
         replace H : ((laws_heldIntS.f kj26 t279 1).bind fun t280 => (if t280 < 0 then (some false) else (if t280 = t278 then ((laws_toPieceS.f kj26 l0).bind fun t281 => ((impl_BestPieces.f kj26 t281 a1).bind fun bt284 => ((laws_eqIntS.f kj26 bt284.1 t259).bind fun t288 => (if t288 = true then (laws_FnExactBestPieces.j2 kj26 t279 t278 (bt284.2 != t260)) else (laws_FnExactBestPieces.j2 kj26 t279 t278 true))))) else (some false)))) = some r := H
         have A40 := Aside0.mk A400
         clear A400
         replace H := Option.bind_eq_some_iff.mp H
         obtain ⟨t280, A410, H⟩ := H
         replace H : (if t280 < 0 then (some false) else (if t280 = t278 then ((laws_toPieceS.f kj26 l0).bind fun t281 => ((impl_BestPieces.f kj26 t281 a1).bind fun bt284 => ((laws_eqIntS.f kj26 bt284.1 t259).bind fun t288 => (if t288 = true then (laws_FnExactBestPieces.j2 kj26 t279 t278 (bt284.2 != t260)) else (laws_FnExactBestPieces.j2 kj26 t279 t278 true))))) else (some false))) = some r := H
         have A41 := Aside0.mk A410
         clear A410
         by_cases c42 : t280 < 0
         ·rw [if_pos c42] at H
          have c42b0 : decide (t280 < 0) = true := decide_eq_true c42
          clear c42
          obtain rfl := Option.some.inj H
          obtain ⟨Ao43, co43, eo43⟩ := Kd.R_slice HO_9.out
          subst eo43
          go_wp2_with (first | ((with_reducible refine gate_callee (f := 27) rfl ?_); refine gl_ (some 68) Try.func27 #[.slice Ao43 t266.length co43, .int .i64 1] rfl rfl rfl ?_; (with_reducible refine (laws_markIntS.calls kj26 (fun k_ => some k_ = (.slice Ao43 t266.length co43 : Value).ownBlock) (.slice Ao43 t266.length co43) t266 1 t278 t279 w _ ?side1 ?side2 A40.out).mono ?_); (case side1 => exact hb_ HB); (case side2 => exact Kd.R_tight rfl HO_9.out); rintro e w44 ⟨rfl, hy0, hb, hkp⟩; refine ⟨_, rfl, ?_⟩; replace HO_6 := Aside0.mk (Kd.R_mono (ok' := fun k_ => some k_ ≠ (.slice Ao43 t266.length co43 : Value).ownBlock) (Kd.R_keptB (HO_6.out) hkp (fun k_ hk_ hs_ => (hk_) hs_)) (fun k_ hk_ => hk_.1)); replace HO_9 := Aside0.mk (Kd.R_reok rfl hy0 (fun k_ e_ => HO_9.out.1 k_ e_)); replace HB := Aside0.mk (hb); (try clear hb); (try clear hkp); (try clear hy0)) | ((with_reducible refine gate_callee (f := 32) rfl ?_); refine gl_ (some 71) Try.func32 #[.slice Ao43 t279.length co43, .int .i64 1] rfl rfl rfl ?_ (by (try simp only [List.map_toArray, List.map_cons, List.map_nil]); first | done | (rw [show t279.length = t266.length from (Kd.R_reads' HO_9.out).1.symm] <;> rfl) | rfl | (simp only [List.length_drop, List.length_take]; rfl)); (with_reducible refine (laws_heldIntS.calls kj26 _ _ t279 1 t280 _ ?side1 ?side2 A41.out).mono ?_); (case side1 => exact Kd.C_o HO_9); (case side2 => rw [show t279.length = t266.length from (Kd.R_reads' HO_9.out).1.symm]; exact (Kd.R_reads' HO_9.out).2.1); rintro e w' ⟨rfl, ⟨nd, rfl⟩⟩; refine ⟨_, rfl, ?_⟩))
          go_ret
          exact ⟨by first | rfl | (simp [errW_none, errW_some] <;> rfl) | (simp [*, errW_none, errW_some] <;> rfl), hb_ HB⟩
         ·rw [if_neg c42] at H
          have c42b0 : decide (t280 < 0) = false := decide_eq_false c42
          clear c42
          by_cases c45 : t280 = t278
          ·rw [if_pos c45] at H
           have c45b0 : (t280 == t278) = true := beq_iff_eq.mpr c45
           have c45b1 : (t280 != t278) = false := bne_eq_false_iff_eq.mpr c45
           clear c45
           replace H := Option.bind_eq_some_iff.mp H
           obtain ⟨t281, A460, H⟩ := H
           replace H : ((impl_BestPieces.f kj26 t281 a1).bind fun bt284 => ((laws_eqIntS.f kj26 bt284.1 t259).bind fun t288 => (if t288 = true then (laws_FnExactBestPieces.j2 kj26 t279 t278 (bt284.2 != t260)) else (laws_FnExactBestPieces.j2 kj26 t279 t278 true)))) = some r := H
           have A46 := Aside0.mk A460
           clear A460
           replace H := Option.bind_eq_some_iff.mp H
           obtain ⟨⟨t284, t285⟩, A470, H⟩ := H
           replace H : ((laws_eqIntS.f kj26 t284 t259).bind fun t288 => (if t288 = true then (laws_FnExactBestPieces.j2 kj26 t279 t278 (t285 != t260)) else (laws_FnExactBestPieces.j2 kj26 t279 t278 true))) = some r := H
           have A47 := Aside0.mk A470
           clear A470
           have HC48 := Aside0.mk H
           clear H
           obtain ⟨Ao49, co49, eo49⟩ := Kd.R_slice HO_9.out
           subst eo49
           go_upto_region 25 with (first | ((with_reducible refine gate_callee (f := 27) rfl ?_); refine gl_ (some 68) Try.func27 #[.slice Ao49 t266.length co49, .int .i64 1] rfl rfl rfl ?_; (with_reducible refine (laws_markIntS.calls kj26 (fun k_ => some k_ = (.slice Ao49 t266.length co49 : Value).ownBlock) (.slice Ao49 t266.length co49) t266 1 t278 t279 w _ ?side1 ?side2 A40.out).mono ?_); (case side1 => exact hb_ HB); (case side2 => exact Kd.R_tight rfl HO_9.out); rintro e w50 ⟨rfl, hy0, hb, hkp⟩; refine ⟨_, rfl, ?_⟩; replace HO_6 := Aside0.mk (Kd.R_mono (ok' := fun k_ => some k_ ≠ (.slice Ao49 t266.length co49 : Value).ownBlock) (Kd.R_keptB (HO_6.out) hkp (fun k_ hk_ hs_ => (hk_) hs_)) (fun k_ hk_ => hk_.1)); replace HO_9 := Aside0.mk (Kd.R_reok rfl hy0 (fun k_ e_ => HO_9.out.1 k_ e_)); replace HB := Aside0.mk (hb); (try clear hb); (try clear hkp); (try clear hy0)) | ((with_reducible refine gate_callee (f := 32) rfl ?_); refine gl_ (some 71) Try.func32 #[.slice Ao49 t279.length co49, .int .i64 1] rfl rfl rfl ?_ (by (try simp only [List.map_toArray, List.map_cons, List.map_nil]); first | done | (rw [show t279.length = t266.length from (Kd.R_reads' HO_9.out).1.symm] <;> rfl) | rfl | (simp only [List.length_drop, List.length_take]; rfl)); (with_reducible refine (laws_heldIntS.calls kj26 _ _ t279 1 t280 _ ?side1 ?side2 A41.out).mono ?_); (case side1 => exact Kd.C_o HO_9); (case side2 => rw [show t279.length = t266.length from (Kd.R_reads' HO_9.out).1.symm]; exact (Kd.R_reads' HO_9.out).2.1); rintro e w' ⟨rfl, ⟨nd, rfl⟩⟩; refine ⟨_, rfl, ?_⟩) | ((with_reducible refine gate_callee (f := 19) rfl ?_); refine gl_ (some 79) Try.func19 #[.slice A0 l0.length c0] rfl rfl rfl ?_; (with_reducible refine (laws_toPieceS.calls kj26 _ _ l0 t281 _ ?side1 ?side2 A46.out).mono ?_); (case side1 => exact Kd.C_below HR0.out (hb_ HB)); (case side2 => exact HC0.out); rintro e w51 ⟨v282, rfl, ho0, hb⟩; refine ⟨_, rfl, ?_⟩; have HO283 := Kd.R_lo ho0 HB; replace HO_6 := Kd.R_b HO_6 hb; replace HO_9 := Kd.R_b HO_9 hb; replace HB := hbs_ HB hb; (try clear hb); (try clear hb2); (try clear hk); (try clear hi); (try clear ho0); obtain ⟨Ao52, co52, eo52⟩ := Kd.R_slice HO283.out; subst eo52) | ((with_reducible refine gate_callee (f := 38) rfl ?_); refine gl_ (some 81) Try.func38 #[.slice Ao52 t281.length co52, .int .i64 a1] rfl rfl rfl ?_; (with_reducible refine (impl_BestPieces.calls kj26 _ _ t281 a1 t284 t285 _ ?side1 ?side2 A47.out).mono ?_); (case side1 => exact Kd.C_o HO283); (case side2 => exact (Kd.R_reads' HO283.out).2.1); rintro e w53 ⟨v286, rfl, ho0, hb⟩; refine ⟨_, rfl, ?_⟩; have HO287 := Kd.R_lo (Kd.R_nw (Kd.R_nw ho0 HO_6) HO_9) HB; replace HO_6 := Kd.R_e HO_6 ho0 hb; replace HO_9 := Kd.R_e HO_9 ho0 hb; replace HO283 := Kd.R_b HO283 hb; replace HB := hbs_ HB hb; (try clear hb); (try clear hb2); (try clear hk); (try clear hi); (try clear ho0)))
           (try simp only [Act.put, List.setIfInBounds_toArray, List.set_cons_zero, List.set_cons_succ])
           go_cut [92] (fun v92 wc => ∃ (kq : Nat) (x92_47 : Bool), v92 = .bool x92_47 ∧ Aside0 (laws_FnExactBestPieces.j2 kq t279 t278 x92_47 = some r) ∧ Aside0 (kq ≤ kj26) ∧ Aside0 (Kd.R (Kd.int .i64) 3 wc w.heap.size (fun _ => True) (.slice Ao49 t266.length co49) t279) ∧ Aside0 (Below w.heap.size w wc))
           case first =>
            have H := HC48.out
            clear HC48
            replace H := Option.bind_eq_some_iff.mp H
            obtain ⟨t288, A540, H⟩ := H
            replace H : (if t288 = true then (laws_FnExactBestPieces.j2 kj26 t279 t278 (t285 != t260)) else (laws_FnExactBestPieces.j2 kj26 t279 t278 true)) = some r := H
            have A54 := Aside0.mk A540
            clear A540
            by_cases c55 : t288 = true
            ·subst c55
             have H1 : (laws_FnExactBestPieces.j2 kj26 t279 t278 (t285 != t260)) = some r := by rw [if_pos rfl] at H; exact H
             clear H
             have H := H1
             clear H1
             have H' := Aside0.mk H
             clear H
             (try clear HO283)
             obtain ⟨Ao56, co56, eo56⟩ := Kd.R_slice HO287.out
             subst eo56
             obtain ⟨Ao57, co57, eo57⟩ := Kd.R_slice HO_6.out
             subst eo57
             go_wp2_with (first | ((with_reducible refine gate_callee (f := 26) rfl ?_); refine gl_ (some 86) Try.func26 #[.slice Ao56 t284.length co56, .slice Ao57 t259.length co57] rfl rfl rfl ?_; (with_reducible refine (laws_eqIntS.calls kj26 _ _ t284 _ _ t259 true _ ?side1 ?side2 ?side3 ?side4 A54.out).mono ?_); (case side1 => exact Kd.C_o HO287); (case side2 => exact (Kd.R_reads' HO287.out).2.1); (case side3 => exact Kd.C_o HO_6); (case side4 => exact (Kd.R_reads' HO_6.out).2.1); rintro e w' ⟨rfl, ⟨nd, rfl⟩⟩; refine ⟨_, rfl, ?_⟩))
             go_meet
             case rel => exact ⟨_, ((t285 != t260)), (by first | rfl | (simp; done) | (simp [*]; done)), H', ⟨by have := HJ8.out; have := HJ26.out; first | omega | exact Nat.le_refl _⟩, ⟨Kd.R_pp (Kd.R_mono HO_9.out (fun _ hk => trivial))⟩, ⟨hb_ HB⟩⟩
            ·replace c55 := Bool.eq_false_iff.mpr c55
             subst c55
             have H1 : (laws_FnExactBestPieces.j2 kj26 t279 t278 true) = some r := by rw [if_neg (show ¬ (false = true) by decide)] at H; exact H
             clear H
             have H := H1
             clear H1
             have H' := Aside0.mk H
             clear H
             (try clear HO283)
             obtain ⟨Ao58, co58, eo58⟩ := Kd.R_slice HO287.out
             subst eo58
             obtain ⟨Ao59, co59, eo59⟩ := Kd.R_slice HO_6.out
             subst eo59
             go_wp2_with (first | ((with_reducible refine gate_callee (f := 26) rfl ?_); refine gl_ (some 86) Try.func26 #[.slice Ao58 t284.length co58, .slice Ao59 t259.length co59] rfl rfl rfl ?_; (with_reducible refine (laws_eqIntS.calls kj26 _ _ t284 _ _ t259 false _ ?side1 ?side2 ?side3 ?side4 A54.out).mono ?_); (case side1 => exact Kd.C_o HO287); (case side2 => exact (Kd.R_reads' HO287.out).2.1); (case side3 => exact Kd.C_o HO_6); (case side4 => exact (Kd.R_reads' HO_6.out).2.1); rintro e w' ⟨rfl, ⟨nd, rfl⟩⟩; refine ⟨_, rfl, ?_⟩))
             go_meet
             case rel => exact ⟨_, (true), (by first | rfl | (simp; done) | (simp [*]; done)), H', ⟨by have := HJ8.out; have := HJ26.out; first | omega | exact Nat.le_refl _⟩, ⟨Kd.R_pp (Kd.R_mono HO_9.out (fun _ hk => trivial))⟩, ⟨hb_ HB⟩⟩
           case rest =>
            clear HC48
            (try clear c1); (try clear c2); (try clear p2); (try clear c3); (try clear c4); (try clear c4b0); (try clear c5); (try clear c8); (try clear c17); (try clear c19); (try clear c21); (try clear c22); (try clear c25); (try clear c26); (try clear c27); (try clear c28); (try clear c32); (try clear c32b0); (try clear c34); (try clear c37); (try clear c38); (try clear c39); (try clear c42); (try clear c42b0); (try clear c45); (try clear c45b0); (try clear c45b1); (try clear c55)
            obtain ⟨kq, x92_47, rfl, HA, HJ47, HO_9, HB⟩ := hcut
            have hl9_47 := (Kd.R_reads' HO_9.out).1
            rw [hl9_47] at HO_9
            (try simp only [hl9_47])
            cases kq with
            | zero => exact absurd HA.out (by simp [laws_FnExactBestPieces.j2])
            | succ kj47 =>
             have H := HA.out
             clear HA
             simp only [laws_FnExactBestPieces.j2] at H
             by_cases c60 : x92_47 = true
             ·subst c60
              have H1 : (some false) = some r := by rw [if_pos rfl] at H; exact H
              clear H
              have H := H1
              clear H1
              obtain rfl := Option.some.inj H
              go_wp2
              go_ret
              exact ⟨by first | rfl | (simp [errW_none, errW_some] <;> rfl) | (simp [*, errW_none, errW_some] <;> rfl), hb_ HB⟩
             ·replace c60 := Bool.eq_false_iff.mpr c60
              subst c60
              have H1 : ((laws_heldIntS.f kj47 t279 1).bind fun t289 => (if t289 < 0 then (some false) else (if t289 = t278 then (some true) else (some false)))) = some r := by rw [if_neg (show ¬ (false = true) by decide)] at H; exact H
              clear H
              have H := H1
              clear H1
              replace H := Option.bind_eq_some_iff.mp H
              obtain ⟨t289, A610, H⟩ := H
              replace H : (if t289 < 0 then (some false) else (if t289 = t278 then (some true) else (some false))) = some r := H
              have A61 := Aside0.mk A610
              clear A610
              by_cases c62 : t289 < 0
              ·rw [if_pos c62] at H
               have c62b0 : decide (t289 < 0) = true := decide_eq_true c62
               clear c62
               obtain rfl := Option.some.inj H
               go_wp2_with (first | ((with_reducible refine gate_callee (f := 32) rfl ?_); refine gl_ (some 95) Try.func32 #[.slice Ao49 t279.length co49, .int .i64 1] rfl rfl rfl ?_; (with_reducible refine (laws_heldIntS.calls kj47 _ _ t279 1 t289 _ ?side1 ?side2 A61.out).mono ?_); (case side1 => exact Kd.C_o HO_9); (case side2 => exact (Kd.R_reads' HO_9.out).2.1); rintro e w' ⟨rfl, ⟨nd, rfl⟩⟩; refine ⟨_, rfl, ?_⟩))
               go_ret
               exact ⟨by first | rfl | (simp [errW_none, errW_some] <;> rfl) | (simp [*, errW_none, errW_some] <;> rfl), hb_ HB⟩
              ·rw [if_neg c62] at H
               have c62b0 : decide (t289 < 0) = false := decide_eq_false c62
               clear c62
               by_cases c63 : t289 = t278
               ·rw [if_pos c63] at H
                have c63b0 : (t289 == t278) = true := beq_iff_eq.mpr c63
                have c63b1 : (t289 != t278) = false := bne_eq_false_iff_eq.mpr c63
                clear c63
                obtain rfl := Option.some.inj H
                go_wp2_with (first | ((with_reducible refine gate_callee (f := 32) rfl ?_); refine gl_ (some 95) Try.func32 #[.slice Ao49 t279.length co49, .int .i64 1] rfl rfl rfl ?_; (with_reducible refine (laws_heldIntS.calls kj47 _ _ t279 1 t289 _ ?side1 ?side2 A61.out).mono ?_); (case side1 => exact Kd.C_o HO_9); (case side2 => exact (Kd.R_reads' HO_9.out).2.1); rintro e w' ⟨rfl, ⟨nd, rfl⟩⟩; refine ⟨_, rfl, ?_⟩))
                go_ret
                exact ⟨by first | rfl | (simp [errW_none, errW_some] <;> rfl) | (simp [*, errW_none, errW_some] <;> rfl), hb_ HB⟩
               ·rw [if_neg c63] at H
                have c63b0 : (t289 == t278) = false := beq_eq_false_iff_ne.mpr c63
                have c63b1 : (t289 != t278) = true := bne_iff_ne.mpr c63
                obtain rfl := Option.some.inj H
                go_wp2_with (first | ((with_reducible refine gate_callee (f := 32) rfl ?_); refine gl_ (some 95) Try.func32 #[.slice Ao49 t279.length co49, .int .i64 1] rfl rfl rfl ?_; (with_reducible refine (laws_heldIntS.calls kj47 _ _ t279 1 t289 _ ?side1 ?side2 A61.out).mono ?_); (case side1 => exact Kd.C_o HO_9); (case side2 => exact (Kd.R_reads' HO_9.out).2.1); rintro e w' ⟨rfl, ⟨nd, rfl⟩⟩; refine ⟨_, rfl, ?_⟩))
                go_ret
                exact ⟨by first | rfl | (simp [errW_none, errW_some] <;> rfl) | (simp [*, errW_none, errW_some] <;> rfl), hb_ HB⟩
          ·rw [if_neg c45] at H
           have c45b0 : (t280 == t278) = false := beq_eq_false_iff_ne.mpr c45
           have c45b1 : (t280 != t278) = true := bne_iff_ne.mpr c45
           obtain rfl := Option.some.inj H
           obtain ⟨Ao64, co64, eo64⟩ := Kd.R_slice HO_9.out
           subst eo64
           go_wp2_with (first | ((with_reducible refine gate_callee (f := 27) rfl ?_); refine gl_ (some 68) Try.func27 #[.slice Ao64 t266.length co64, .int .i64 1] rfl rfl rfl ?_; (with_reducible refine (laws_markIntS.calls kj26 (fun k_ => some k_ = (.slice Ao64 t266.length co64 : Value).ownBlock) (.slice Ao64 t266.length co64) t266 1 t278 t279 w _ ?side1 ?side2 A40.out).mono ?_); (case side1 => exact hb_ HB); (case side2 => exact Kd.R_tight rfl HO_9.out); rintro e w65 ⟨rfl, hy0, hb, hkp⟩; refine ⟨_, rfl, ?_⟩; replace HO_6 := Aside0.mk (Kd.R_mono (ok' := fun k_ => some k_ ≠ (.slice Ao64 t266.length co64 : Value).ownBlock) (Kd.R_keptB (HO_6.out) hkp (fun k_ hk_ hs_ => (hk_) hs_)) (fun k_ hk_ => hk_.1)); replace HO_9 := Aside0.mk (Kd.R_reok rfl hy0 (fun k_ e_ => HO_9.out.1 k_ e_)); replace HB := Aside0.mk (hb); (try clear hb); (try clear hkp); (try clear hy0)) | ((with_reducible refine gate_callee (f := 32) rfl ?_); refine gl_ (some 71) Try.func32 #[.slice Ao64 t279.length co64, .int .i64 1] rfl rfl rfl ?_ (by (try simp only [List.map_toArray, List.map_cons, List.map_nil]); first | done | (rw [show t279.length = t266.length from (Kd.R_reads' HO_9.out).1.symm] <;> rfl) | rfl | (simp only [List.length_drop, List.length_take]; rfl)); (with_reducible refine (laws_heldIntS.calls kj26 _ _ t279 1 t280 _ ?side1 ?side2 A41.out).mono ?_); (case side1 => exact Kd.C_o HO_9); (case side2 => rw [show t279.length = t266.length from (Kd.R_reads' HO_9.out).1.symm]; exact (Kd.R_reads' HO_9.out).2.1); rintro e w' ⟨rfl, ⟨nd, rfl⟩⟩; refine ⟨_, rfl, ?_⟩))
           go_ret
           exact ⟨by first | rfl | (simp [errW_none, errW_some] <;> rfl) | (simp [*, errW_none, errW_some] <;> rfl), hb_ HB⟩
     ·replace c25 := Bool.eq_false_iff.mpr c25
      subst c25
      have H1 : (some false) = some r := by rw [if_neg (show ¬ (false = true) by decide)] at H; exact H
      clear H
      have H := H1
      clear H1
      obtain rfl := Option.some.inj H
      go_wp2_with (first | ((with_reducible refine gate_callee (f := 19) rfl ?_); refine gl_ (some 47) Try.func19 #[.slice A0 l0.length c0] rfl rfl rfl ?_; (with_reducible refine (laws_toPieceS.calls kj8 _ _ l0 t271 _ ?side1 ?side2 A23.out).mono ?_); (case side1 => exact Kd.C_w HR0 HB); (case side2 => exact HC0.out); rintro e w66 ⟨v272, rfl, ho0, hb⟩; refine ⟨_, rfl, ?_⟩; have HO273 := Kd.R_lo (Kd.R_nw ho0 HO_8) HB; replace HO_6 := Kd.R_b HO_6 hb; replace HO_8 := Kd.R_e HO_8 ho0 hb; replace HO_9 := Kd.R_b HO_9 hb; replace HB := hbs_ HB hb; (try clear hb); (try clear hb2); (try clear hk); (try clear hi); (try clear ho0); obtain ⟨Ao67, co67, eo67⟩ := Kd.R_slice HO273.out; subst eo67) | ((with_reducible refine gate_callee (f := 21) rfl ?_); refine gl_ (some 48) Try.func21 #[.slice Ao14 t263.length co14, .slice Ao67 t271.length co67] rfl rfl rfl ?_; (with_reducible refine (laws_eqPieceS.calls kj8 _ _ t263 _ _ t271 false _ ?side1 ?side2 ?side3 ?side4 A24.out).mono ?_); (case side1 => exact Kd.C_o HO_8); (case side2 => exact (Kd.R_reads' HO_8.out).2.1); (case side3 => exact Kd.C_o HO273); (case side4 => exact (Kd.R_reads' HO273.out).2.1); rintro e w68 ⟨rfl, hb⟩; refine ⟨_, rfl, ?_⟩; replace HO_6 := Kd.R_b HO_6 hb; replace HO_8 := Kd.R_b HO_8 hb; replace HO_9 := Kd.R_b HO_9 hb; replace HO273 := Kd.R_b HO273 hb; replace HB := hbs_ HB hb; (try clear hb); (try clear hb2); (try clear hk); (try clear hi)))
      go_ret
      exact ⟨by first | rfl | (simp [errW_none, errW_some] <;> rfl) | (simp [*, errW_none, errW_some] <;> rfl), hb_ HB⟩

end Go.Proofs.Ytceajigggcihnaa.PFnExactBestPieces
