-- Laid for this claim by wip/tools/print2.sh, a changed copy of the kit's print (wip/tools/patch_print.py): not by print.sh.
import Derived.Test.YtceajigggcihnaaPFnExactSortPiecesx0
import Derived.Test.YtceajigggcihnaaPFnExactSortPiecesx2
import Derived.Test.YtceajigggcihnaaPFnExactSortPiecesx3
namespace Go.Proofs.Ytceajigggcihnaa.PFnExactSortPieces
open Go.RowKit Go.Proofs.YtceajigggcihnaaW.PrintWords Go.Proofs.YtceajigggcihnaaW.PrintLast Go.Proofs.YtceajigggcihnaaW.PrintMore
attribute [local go_sem] max2_int min2_int max_two min_two max_three min_three max_four min_four   -- for this text's walks alone
set_option linter.unusedVariables false
set_option linter.unusedSimpArgs false

/-! ### spec_SortPieces: function 30 -/
def spec_SortPieces.f (k : Nat) (l0 : List (S29)) : Option (List Int × Bool) := (spec_sbList.f k l0).bind fun t184 => (if t184 = true then ((spec_sbSort.f k l0).bind fun t185 => (some (t185, true))) else (some (([] : List Int), false)))
set_option maxHeartbeats 8000000 in
set_option maxRecDepth 100000 in
theorem spec_SortPieces.calls (k : Nat) (A0 : Option Addr) (c0 : Nat) (l0 : List (S29)) (r1 : List Int) (r2 : Bool) (w : World) (hr0 : Kd.C k29 w A0 l0.length l0) (hc0 : l0.length ≤ c0) (h : spec_SortPieces.f k l0 = some (r1, r2)) :
  Calls Try.prog 30 #[.slice A0 l0.length c0] w fun e w' => ∃ v0_ : Value, e = .returned (.tuple #[v0_, .bool r2]) ∧ Kd.R (Kd.int .i64) 3 w' w.heap.size (fun _ => True) v0_ r1 ∧ Below w.heap.size w w' := by
 have HR0 := Aside0.mk hr0
 have HC0 := Aside0.mk hc0
 clear hr0 hc0
 have HB := Aside0.mk (Below.refl w.heap.size w)
 have H : ((spec_sbList.f k l0).bind fun t184 => (if t184 = true then ((spec_sbSort.f k l0).bind fun t185 => (some (t185, true))) else (some (([] : List Int), false)))) = some (r1, r2) := h
 clear h
 replace H := Option.bind_eq_some_iff.mp H
 obtain ⟨t184, A20, H⟩ := H
 replace H : (if t184 = true then ((spec_sbSort.f k l0).bind fun t185 => (some (t185, true))) else (some (([] : List Int), false))) = some (r1, r2) := H
 have A2 := Aside0.mk A20
 clear A20
 by_cases c3 : t184 = true
 ·subst c3
  have H1 : ((spec_sbSort.f k l0).bind fun t185 => (some (t185, true))) = some (r1, r2) := by rw [if_pos rfl] at H; exact H
  clear H
  have H := H1
  clear H1
  replace H := Option.bind_eq_some_iff.mp H
  obtain ⟨t185, A40, H⟩ := H
  replace H : (some (t185, true)) = some (r1, r2) := H
  have A4 := Aside0.mk A40
  clear A40
  simp only [Option.some.injEq, Prod.mk.injEq] at H
  obtain ⟨rfl, rfl⟩ := H
  go_enter Try.func30, Try.ntmps30
  go_wp2_with (first | ((with_reducible refine gate_callee (f := 65) rfl ?_); refine gl_ (some 5) Try.func65 #[.slice A0 l0.length c0] rfl rfl rfl ?_; (with_reducible refine (spec_sbList.calls k _ _ l0 true _ ?side1 ?side2 A2.out).mono ?_); (case side1 => repeat (first | exact HR0.out | (with_reducible refine Kd.C_alloc ?_ _) | (with_reducible refine Kd.C_drewN ?_ _) | (with_reducible refine Kd.C_drew ?_))); (case side2 => exact HC0.out); rintro e w5 ⟨rfl, hb⟩; refine ⟨_, rfl, ?_⟩; replace HB := hbs_ HB hb; (try clear hb); (try clear hb2); (try clear hk); (try clear hi)) | ((with_reducible refine gate_callee (f := 75) rfl ?_); refine gl_ (some 8) Try.func75 #[.slice A0 l0.length c0] rfl rfl rfl ?_; (with_reducible refine (spec_sbSort.calls k _ _ l0 t185 _ ?side1 ?side2 A4.out).mono ?_); (case side1 => exact Kd.C_w HR0 HB); (case side2 => exact HC0.out); rintro e w6 ⟨v186, rfl, ho0, hb⟩; refine ⟨_, rfl, ?_⟩; have HO187 := Kd.R_lo ho0 HB; replace HB := hbs_ HB hb; (try clear hb); (try clear hb2); (try clear hk); (try clear hi); (try clear ho0)))
  go_ret2
  exact ⟨_, by first | rfl | (simp [errW_none, errW_some] <;> rfl) | (simp [*, errW_none, errW_some] <;> rfl), Kd.R_p HO187, hb_ HB⟩
 ·replace c3 := Bool.eq_false_iff.mpr c3
  subst c3
  have H1 : (some (([] : List Int), false)) = some (r1, r2) := by rw [if_neg (show ¬ (false = true) by decide)] at H; exact H
  clear H
  have H := H1
  clear H1
  simp only [Option.some.injEq, Prod.mk.injEq] at H
  obtain ⟨rfl, rfl⟩ := H
  go_enter Try.func30, Try.ntmps30
  go_wp2_with (first | ((with_reducible refine gate_callee (f := 65) rfl ?_); refine gl_ (some 5) Try.func65 #[.slice A0 l0.length c0] rfl rfl rfl ?_; (with_reducible refine (spec_sbList.calls k _ _ l0 false _ ?side1 ?side2 A2.out).mono ?_); (case side1 => repeat (first | exact HR0.out | (with_reducible refine Kd.C_alloc ?_ _) | (with_reducible refine Kd.C_drewN ?_ _) | (with_reducible refine Kd.C_drew ?_))); (case side2 => exact HC0.out); rintro e w7 ⟨rfl, hb⟩; refine ⟨_, rfl, ?_⟩; replace HB := hbs_ HB hb; (try clear hb); (try clear hb2); (try clear hk); (try clear hi)))
  go_ret2
  exact ⟨_, by first | rfl | (simp [errW_none, errW_some] <;> rfl) | (simp [*, errW_none, errW_some] <;> rfl), by first | exact Kd.R_nil _ _ _ _ _ | exact Kd.N_nil _ _ _ _ _ | exact Kd.V_nil _ _ _ _ _ | exact Kd.Q_nil _ _ _ _ _ | exact Kd.S_nil _ _ _ _ _, hb_ HB⟩

/-! ### impl_IsPiece: function 47 -/
def impl_IsPiece.f (a0_0 : Int) (a0_1 : Int) (a0_2 : Int) : Option (Bool) := if a0_0 ≥ 0 then (if a0_0 ≤ 10000 then (if a0_1 ≥ 0 then (if a0_1 ≤ (wrap64 (1000 * a0_0)) then (if a0_2 ≥ 0 then (some (decide (a0_2 ≤ 4))) else (some false)) else (some false)) else (some false)) else (some false)) else (some false)
set_option maxHeartbeats 8000000 in
set_option maxRecDepth 100000 in
theorem impl_IsPiece.calls (a0_0 : Int) (a0_1 : Int) (a0_2 : Int) (r : Bool) (w : World) (h : impl_IsPiece.f a0_0 a0_1 a0_2 = some r) :
  Calls Try.prog 47 #[.agg #[.int .i64 a0_0, .int .i64 a0_1, .int .i64 a0_2]] w fun e w' => e = .returned (.bool r) ∧ Below w.heap.size w w' := by
 have hu29 := Try.underlying29
 have HB := Aside0.mk (Below.refl w.heap.size w)
 have H : (if a0_0 ≥ 0 then (if a0_0 ≤ 10000 then (if a0_1 ≥ 0 then (if a0_1 ≤ (wrap64 (1000 * a0_0)) then (if a0_2 ≥ 0 then (some (decide (a0_2 ≤ 4))) else (some false)) else (some false)) else (some false)) else (some false)) else (some false)) = some r := h
 clear h
 by_cases c2 : a0_0 ≥ 0
 ·rw [if_pos c2] at H
  have c2b0 : decide (0 ≤ a0_0) = true := decide_eq_true c2
  clear c2
  by_cases c3 : a0_0 ≤ 10000
  ·rw [if_pos c3] at H
   have c3b0 : decide (a0_0 ≤ 10000) = true := decide_eq_true c3
   clear c3
   by_cases c4 : a0_1 ≥ 0
   ·rw [if_pos c4] at H
    have c4b0 : decide (0 ≤ a0_1) = true := decide_eq_true c4
    clear c4
    by_cases c5 : a0_1 ≤ (wrap64 (1000 * a0_0))
    ·rw [if_pos c5] at H
     have c5b0 : decide (a0_1 ≤ (wrap64 (1000 * a0_0))) = true := decide_eq_true c5
     clear c5
     by_cases c6 : a0_2 ≥ 0
     ·rw [if_pos c6] at H
      have c6b0 : decide (0 ≤ a0_2) = true := decide_eq_true c6
      clear c6
      obtain rfl := Option.some.inj H
      go_enter Try.func47, Try.ntmps47
      go_wp2_with (first | ((with_reducible refine gate_dst (N := 1) rfl ?_); refine box_event ?hg (N := 1) ?hd (cs := #[.int .i64 a0_0, .int .i64 a0_1, .int .i64 a0_2]) (t := 29) ?hr ?_; (case hd => rfl); (case hg => rfl); (case hr => first | (go_simp; done) | (go_simp; rfl)); intro gb188 hg w7 hbox hb; have BK188 := Aside0.mk (hbox); have GW188 := gs_ hg HB; have GE188 := gs_ hg HB; replace HB := hbs_ HB hb; clear hb hbox hg; obtain ⟨hcz8_0, hcz8_1, hcz8_2, hfz8_0, hfz8_1, hfz8_2⟩ := bx3 BK188))
      go_ret
      exact ⟨by first | rfl | (simp [errW_none, errW_some] <;> rfl) | (simp [*, errW_none, errW_some] <;> rfl), hb_ HB⟩
     ·rw [if_neg c6] at H
      have c6b0 : decide (0 ≤ a0_2) = false := decide_eq_false c6
      clear c6
      obtain rfl := Option.some.inj H
      go_enter Try.func47, Try.ntmps47
      go_wp2_with (first | ((with_reducible refine gate_dst (N := 1) rfl ?_); refine box_event ?hg (N := 1) ?hd (cs := #[.int .i64 a0_0, .int .i64 a0_1, .int .i64 a0_2]) (t := 29) ?hr ?_; (case hd => rfl); (case hg => rfl); (case hr => first | (go_simp; done) | (go_simp; rfl)); intro gb188 hg w9 hbox hb; have BK188 := Aside0.mk (hbox); have GW188 := gs_ hg HB; have GE188 := gs_ hg HB; replace HB := hbs_ HB hb; clear hb hbox hg; obtain ⟨hcz10_0, hcz10_1, hcz10_2, hfz10_0, hfz10_1, hfz10_2⟩ := bx3 BK188))
      go_ret
      exact ⟨by first | rfl | (simp [errW_none, errW_some] <;> rfl) | (simp [*, errW_none, errW_some] <;> rfl), hb_ HB⟩
    ·rw [if_neg c5] at H
     have c5b0 : decide (a0_1 ≤ (wrap64 (1000 * a0_0))) = false := decide_eq_false c5
     clear c5
     obtain rfl := Option.some.inj H
     go_enter Try.func47, Try.ntmps47
     go_wp2_with (first | ((with_reducible refine gate_dst (N := 1) rfl ?_); refine box_event ?hg (N := 1) ?hd (cs := #[.int .i64 a0_0, .int .i64 a0_1, .int .i64 a0_2]) (t := 29) ?hr ?_; (case hd => rfl); (case hg => rfl); (case hr => first | (go_simp; done) | (go_simp; rfl)); intro gb188 hg w11 hbox hb; have BK188 := Aside0.mk (hbox); have GW188 := gs_ hg HB; have GE188 := gs_ hg HB; replace HB := hbs_ HB hb; clear hb hbox hg; obtain ⟨hcz12_0, hcz12_1, hcz12_2, hfz12_0, hfz12_1, hfz12_2⟩ := bx3 BK188))
     go_ret
     exact ⟨by first | rfl | (simp [errW_none, errW_some] <;> rfl) | (simp [*, errW_none, errW_some] <;> rfl), hb_ HB⟩
   ·rw [if_neg c4] at H
    have c4b0 : decide (0 ≤ a0_1) = false := decide_eq_false c4
    clear c4
    obtain rfl := Option.some.inj H
    go_enter Try.func47, Try.ntmps47
    go_wp2_with (first | ((with_reducible refine gate_dst (N := 1) rfl ?_); refine box_event ?hg (N := 1) ?hd (cs := #[.int .i64 a0_0, .int .i64 a0_1, .int .i64 a0_2]) (t := 29) ?hr ?_; (case hd => rfl); (case hg => rfl); (case hr => first | (go_simp; done) | (go_simp; rfl)); intro gb188 hg w13 hbox hb; have BK188 := Aside0.mk (hbox); have GW188 := gs_ hg HB; have GE188 := gs_ hg HB; replace HB := hbs_ HB hb; clear hb hbox hg; obtain ⟨hcz14_0, hcz14_1, hcz14_2, hfz14_0, hfz14_1, hfz14_2⟩ := bx3 BK188))
    go_ret
    exact ⟨by first | rfl | (simp [errW_none, errW_some] <;> rfl) | (simp [*, errW_none, errW_some] <;> rfl), hb_ HB⟩
  ·rw [if_neg c3] at H
   have c3b0 : decide (a0_0 ≤ 10000) = false := decide_eq_false c3
   clear c3
   obtain rfl := Option.some.inj H
   go_enter Try.func47, Try.ntmps47
   go_wp2_with (first | ((with_reducible refine gate_dst (N := 1) rfl ?_); refine box_event ?hg (N := 1) ?hd (cs := #[.int .i64 a0_0, .int .i64 a0_1, .int .i64 a0_2]) (t := 29) ?hr ?_; (case hd => rfl); (case hg => rfl); (case hr => first | (go_simp; done) | (go_simp; rfl)); intro gb188 hg w15 hbox hb; have BK188 := Aside0.mk (hbox); have GW188 := gs_ hg HB; have GE188 := gs_ hg HB; replace HB := hbs_ HB hb; clear hb hbox hg; obtain ⟨hcz16_0, hcz16_1, hcz16_2, hfz16_0, hfz16_1, hfz16_2⟩ := bx3 BK188))
   go_ret
   exact ⟨by first | rfl | (simp [errW_none, errW_some] <;> rfl) | (simp [*, errW_none, errW_some] <;> rfl), hb_ HB⟩
 ·rw [if_neg c2] at H
  have c2b0 : decide (0 ≤ a0_0) = false := decide_eq_false c2
  clear c2
  obtain rfl := Option.some.inj H
  go_enter Try.func47, Try.ntmps47
  go_wp2_with (first | ((with_reducible refine gate_dst (N := 1) rfl ?_); refine box_event ?hg (N := 1) ?hd (cs := #[.int .i64 a0_0, .int .i64 a0_1, .int .i64 a0_2]) (t := 29) ?hr ?_; (case hd => rfl); (case hg => rfl); (case hr => first | (go_simp; done) | (go_simp; rfl)); intro gb188 hg w17 hbox hb; have BK188 := Aside0.mk (hbox); have GW188 := gs_ hg HB; have GE188 := gs_ hg HB; replace HB := hbs_ HB hb; clear hb hbox hg; obtain ⟨hcz18_0, hcz18_1, hcz18_2, hfz18_0, hfz18_1, hfz18_2⟩ := bx3 BK188))
  go_ret
  exact ⟨by first | rfl | (simp [errW_none, errW_some] <;> rfl) | (simp [*, errW_none, errW_some] <;> rfl), hb_ HB⟩

/-! ### impl_arePieces: function 68 -/
mutual
def impl_arePieces.j0 : Nat → List (S29) → Bool → Option (Bool)
 | 0, _, _ => none
 | k + 1, x0, x12 => if x12 = true then (some false) else (impl_arePieces.l0 k x0 (x0.length : Int) 0)
def impl_arePieces.l0 : Nat → List (S29) → Int → Int → Option (Bool)
 | 0, _, _, _ => none
 | k + 1, x13, x14, x15 => if x15 < x14 then (if 0 ≤ x15 then (if x15 < (x13.length : Int) then ((impl_IsPiece.f ((rd_T29 x13 x15).f0) ((rd_T29 x13 x15).f1) ((rd_T29 x13 x15).f2)).bind fun t191 => (if t191 = true then (impl_arePieces.l0 k x13 x14 (wrap64 (x15 + 1))) else (some false))) else (none)) else (none)) else (some true)
end
def impl_arePieces.f (k : Nat) (l0 : List (S29)) : Option (Bool) := if (l0.length : Int) < 1 then (impl_arePieces.j0 k l0 true) else (impl_arePieces.j0 k l0 (decide ((l0.length : Int) > 20)))
set_option maxHeartbeats 8000000 in
set_option maxRecDepth 100000 in
theorem impl_arePieces.calls (k : Nat) (A0 : Option Addr) (c0 : Nat) (l0 : List (S29)) (r : Bool) (w : World) (hr0 : Kd.C k29 w A0 l0.length l0) (hc0 : l0.length ≤ c0) (h : impl_arePieces.f k l0 = some r) :
  Calls Try.prog 68 #[.slice A0 l0.length c0] w fun e w' => e = .returned (.bool r) ∧ Below w.heap.size w w' := by
 have hu29 := Try.underlying29
 have HR0 := Aside0.mk hr0
 have HC0 := Aside0.mk hc0
 clear hr0 hc0
 have HB := Aside0.mk (Below.refl w.heap.size w)
 have H : (if (l0.length : Int) < 1 then (impl_arePieces.j0 k l0 true) else (impl_arePieces.j0 k l0 (decide ((l0.length : Int) > 20)))) = some r := h
 clear h
 have HC2 := Aside0.mk H
 clear H
 go_enter Try.func68, Try.ntmps68
 go_upto_region 1 with (fail)
 go_cut [12] (fun v12 wc => ∃ (kq : Nat) (x12_1 : Bool), v12 = .bool x12_1 ∧ Aside0 (impl_arePieces.j0 kq l0 x12_1 = some r) ∧ Aside0 (kq ≤ k) ∧ Aside0 (Below w.heap.size w wc))
 case first =>
  have H := HC2.out
  clear HC2
  by_cases c3 : (l0.length : Int) < 1
  ·rw [if_pos c3] at H
   have c3b0 : decide ((l0.length : Int) < 1) = true := decide_eq_true c3
   have c3b1 : decide (l0.length < 1) = true := decide_eq_true (by omega)
   clear c3
   (first | rw [c3b0] | (simp only [i64_w, i32_w]; rw [c3b0]) | skip)
   have H' := Aside0.mk H
   clear H
   go_wp2
   go_meet
   case rel => exact ⟨_, (true), (by first | rfl | (simp; done) | (simp [*]; done)), H', ⟨by first | omega | exact Nat.le_refl _⟩, ⟨hb_ HB⟩⟩
  ·rw [if_neg c3] at H
   have c3b0 : decide ((l0.length : Int) < 1) = false := decide_eq_false c3
   have c3b1 : decide (l0.length < 1) = false := decide_eq_false (by omega)
   clear c3
   (first | rw [c3b0] | (simp only [i64_w, i32_w]; rw [c3b0]) | skip)
   have H' := Aside0.mk H
   clear H
   go_wp2
   go_meet
   case rel => exact ⟨_, (decide ((l0.length : Int) > 20)), (by first | rfl | (simp; done) | (simp [*]; done)), H', ⟨by first | omega | exact Nat.le_refl _⟩, ⟨hb_ HB⟩⟩
 case rest =>
  clear HC2
  (try clear p2); (try clear c3); (try clear c3b0); (try clear c3b1)
  obtain ⟨kq, x12_1, rfl, HA, HJ1, HB⟩ := hcut
  cases kq with
  | zero => exact absurd HA.out (by simp [impl_arePieces.j0])
  | succ kj1 =>
   have H := HA.out
   clear HA
   simp only [impl_arePieces.j0] at H
   by_cases c4 : x12_1 = true
   ·subst c4
    have H1 : (some false) = some r := by rw [if_pos rfl] at H; exact H
    clear H
    have H := H1
    clear H1
    obtain rfl := Option.some.inj H
    go_wp2
    go_ret
    exact ⟨by first | rfl | (simp [errW_none, errW_some] <;> rfl) | (simp [*, errW_none, errW_some] <;> rfl), hb_ HB⟩
   ·replace c4 := Bool.eq_false_iff.mpr c4
    subst c4
    have H1 : (impl_arePieces.l0 kj1 l0 (l0.length : Int) 0) = some r := by rw [if_neg (show ¬ (false = true) by decide)] at H; exact H
    clear H
    have H := H1
    clear H1
    have H' := Aside0.mk H
    clear H
    go_wp2
    go_loopg [15] kj1 (fun kq v15 w' => ∃ (x15_2 : Int), v15 = .int .i64 x15_2 ∧ Aside0 (impl_arePieces.l0 kq l0 (l0.length : Int) x15_2 = some r) ∧ Aside0 (kq ≤ kj1) ∧ Aside0 (Below w.heap.size w w'))
    case atStart => exact ⟨(0), (by first | rfl | (simp; done) | (simp [*]; done)), H', ⟨Nat.le_refl _⟩, ⟨hb_ HB⟩⟩
    case round =>
     clear H'
     (try clear p2); (try clear c3); (try clear c3b0); (try clear c3b1); (try clear c4)
     obtain ⟨x15_2, rfl, HA, HK2, HB⟩ := hrel
     cases gk with
     | zero => exact absurd HA.out (by simp [impl_arePieces.l0])
     | succ k2 =>
      have H := HA.out
      clear HA
      simp only [impl_arePieces.l0] at H
      by_cases c5 : x15_2 < (l0.length : Int)
      ·rw [if_pos c5] at H
       have c5b0 : decide (x15_2 < (l0.length : Int)) = true := decide_eq_true c5
       clear c5
       by_cases c6 : 0 ≤ x15_2
       ·rw [if_pos c6] at H
        have c6b0 : decide (0 ≤ x15_2) = true := decide_eq_true c6
        clear c6
        by_cases c7 : x15_2 < (l0.length : Int)
        ·rw [if_pos c7] at H
         have c7b0 : decide (x15_2 < (l0.length : Int)) = true := decide_eq_true c7
         clear c7
         replace H := Option.bind_eq_some_iff.mp H
         obtain ⟨t191, A80, H⟩ := H
         replace H : (if t191 = true then (impl_arePieces.l0 k2 l0 (l0.length : Int) (wrap64 (x15_2 + 1))) else (some false)) = some r := H
         have A8 := Aside0.mk A80
         clear A80
         by_cases c9 : t191 = true
         ·subst c9
          have H1 : (impl_arePieces.l0 k2 l0 (l0.length : Int) (wrap64 (x15_2 + 1))) = some r := by rw [if_pos rfl] at H; exact H
          clear H
          have H := H1
          clear H1
          have H' := Aside0.mk H
          clear H
          have p189 : 0 ≤ (x15_2 : Int) := of_decide_eq_true (by first | (with_reducible assumption) | assumption)
          have q189 : x15_2 < (l0.length : Int) := of_decide_eq_true (by first | (with_reducible assumption) | assumption)
          obtain ⟨ad189, e189, hx189_0, hx189_1, hx189_2⟩ := at_T29 HR0.out x15_2 p189 q189
          cases e189
          replace hx189_0 := (HB.out.cell (World.block_lt_of_cell? w _ hx189_0)).trans hx189_0
          replace hx189_1 := (HB.out.cell (World.block_lt_of_cell? w _ hx189_1)).trans hx189_1
          replace hx189_2 := (HB.out.cell (World.block_lt_of_cell? w _ hx189_2)).trans hx189_2
          replace p189 := eq_true p189
          replace q189 := eq_true q189
          go_wp2_with (first | ((with_reducible refine gate_dst (N := 4) rfl ?_); (try (refine gate_guard (by rfl) ?_; dsimp only)); refine box_event ?hg (N := 4) ?hd (cs := #[.int .i64 0, .int .i64 0, .int .i64 0]) (t := 29) ?hr ?_; (case hd => rfl); (case hg => rfl); (case hr => first | (go_simp; done) | (go_simp; rfl)); intro gb190 hg w10 hbox hb; have BK190 := Aside0.mk (hbox); have GW190 := gs_ hg HB; have GE190 := gs_ hg HB; replace HB := hbs_ HB hb; clear hb hbox hg; obtain ⟨hcz11_0, hcz11_1, hcz11_2, hfz11_0, hfz11_1, hfz11_2⟩ := bx3 BK190) | ((with_reducible refine gate_callee (f := 47) rfl ?_); refine gl_ (some 20) Try.func47 #[.agg #[.int .i64 ((rd_T29 l0 x15_2).f0), .int .i64 ((rd_T29 l0 x15_2).f1), .int .i64 ((rd_T29 l0 x15_2).f2)]] rfl rfl rfl ?_; (with_reducible refine (impl_IsPiece.calls ((rd_T29 l0 x15_2).f0) ((rd_T29 l0 x15_2).f1) ((rd_T29 l0 x15_2).f2) true _ A8.out).mono ?_); rintro e w12 ⟨rfl, hb⟩; refine ⟨_, rfl, ?_⟩; replace BK190 := Aside0.mk (blk_below (g := gb190) (o := .cells #[.int .i64 ((rd_T29 l0 x15_2).f0), .int .i64 ((rd_T29 l0 x15_2).f1), .int .i64 ((rd_T29 l0 x15_2).f2)] 29 (0, 0)) (kpq_ (kputs BK190 [(0, _), (1, _), (2, _)])) hb); replace HB := hbs_ HB hb; (try clear hb); (try clear hb2); (try clear hk); (try clear hi)))
          go_roundg k2
          case measure => have := HJ1.out; have := HK2.out; omega
          case rel => exact ⟨(wrap64 (x15_2 + 1)), (by first | rfl | (simp; done) | (simp [*]; done)), H', ⟨by have := HJ1.out; have := HK2.out; omega⟩, ⟨hb_ HB⟩⟩
         ·replace c9 := Bool.eq_false_iff.mpr c9
          subst c9
          have H1 : (some false) = some r := by rw [if_neg (show ¬ (false = true) by decide)] at H; exact H
          clear H
          have H := H1
          clear H1
          obtain rfl := Option.some.inj H
          have p189 : 0 ≤ (x15_2 : Int) := of_decide_eq_true (by first | (with_reducible assumption) | assumption)
          have q189 : x15_2 < (l0.length : Int) := of_decide_eq_true (by first | (with_reducible assumption) | assumption)
          obtain ⟨ad189, e189, hx189_0, hx189_1, hx189_2⟩ := at_T29 HR0.out x15_2 p189 q189
          cases e189
          replace hx189_0 := (HB.out.cell (World.block_lt_of_cell? w _ hx189_0)).trans hx189_0
          replace hx189_1 := (HB.out.cell (World.block_lt_of_cell? w _ hx189_1)).trans hx189_1
          replace hx189_2 := (HB.out.cell (World.block_lt_of_cell? w _ hx189_2)).trans hx189_2
          replace p189 := eq_true p189
          replace q189 := eq_true q189
          go_wp2_with (first | ((with_reducible refine gate_dst (N := 4) rfl ?_); (try (refine gate_guard (by rfl) ?_; dsimp only)); refine box_event ?hg (N := 4) ?hd (cs := #[.int .i64 0, .int .i64 0, .int .i64 0]) (t := 29) ?hr ?_; (case hd => rfl); (case hg => rfl); (case hr => first | (go_simp; done) | (go_simp; rfl)); intro gb190 hg w13 hbox hb; have BK190 := Aside0.mk (hbox); have GW190 := gs_ hg HB; have GE190 := gs_ hg HB; replace HB := hbs_ HB hb; clear hb hbox hg; obtain ⟨hcz14_0, hcz14_1, hcz14_2, hfz14_0, hfz14_1, hfz14_2⟩ := bx3 BK190) | ((with_reducible refine gate_callee (f := 47) rfl ?_); refine gl_ (some 20) Try.func47 #[.agg #[.int .i64 ((rd_T29 l0 x15_2).f0), .int .i64 ((rd_T29 l0 x15_2).f1), .int .i64 ((rd_T29 l0 x15_2).f2)]] rfl rfl rfl ?_; (with_reducible refine (impl_IsPiece.calls ((rd_T29 l0 x15_2).f0) ((rd_T29 l0 x15_2).f1) ((rd_T29 l0 x15_2).f2) false _ A8.out).mono ?_); rintro e w15 ⟨rfl, hb⟩; refine ⟨_, rfl, ?_⟩; replace BK190 := Aside0.mk (blk_below (g := gb190) (o := .cells #[.int .i64 ((rd_T29 l0 x15_2).f0), .int .i64 ((rd_T29 l0 x15_2).f1), .int .i64 ((rd_T29 l0 x15_2).f2)] 29 (0, 0)) (kpq_ (kputs BK190 [(0, _), (1, _), (2, _)])) hb); replace HB := hbs_ HB hb; (try clear hb); (try clear hb2); (try clear hk); (try clear hi)))
          go_ret
          exact ⟨by first | rfl | (simp [errW_none, errW_some] <;> rfl) | (simp [*, errW_none, errW_some] <;> rfl), hb_ HB⟩
        ·rw [if_neg c7] at H
         exact absurd H (by simp)
       ·rw [if_neg c6] at H
        exact absurd H (by simp)
      ·rw [if_neg c5] at H
       have c5b0 : decide (x15_2 < (l0.length : Int)) = false := decide_eq_false c5
       clear c5
       obtain rfl := Option.some.inj H
       go_wp2
       go_ret
       exact ⟨by first | rfl | (simp [errW_none, errW_some] <;> rfl) | (simp [*, errW_none, errW_some] <;> rfl), hb_ HB⟩

/-! ### impl_sortedPieces: function 76 -/
def cmpV (p q : S29) : Int := if p.f0 = 0 ∨ q.f0 = 0 then min q.f0 1 - min p.f0 1 else wrap64 (wrap64 (q.f1 * p.f0) - wrap64 (p.f1 * q.f0))
def okP (p : S29) : Prop := 0 ≤ p.f0 ∧ p.f0 ≤ 10000 ∧ 0 ≤ p.f1 ∧ p.f1 ≤ 10000000
def spEnc (n : Nat) (x : Nat) : Value := .int .i64 ((x % n : Nat) : Int)
def spCf (l : List S29) (x y : Nat) : Int := cmpV (l.getD (x % l.length) z29) (l.getD (y % l.length) z29)
def spOk (l : List S29) : Bool := decide (1 ≤ l.length ∧ l.length ≤ 20) && l.all (fun p => decide (0 ≤ p.f0 ∧ p.f0 ≤ 10000 ∧ 0 ≤ p.f1 ∧ p.f1 ≤ 10000000))
def spSort (l : List S29) : List Int := (Sort.insertionSort (ltOf (spCf l)) (List.range l.length).toArray 0 l.length).toList.map (fun x => ((x % l.length : Nat) : Int))
def impl_sortedPieces.f (l : List S29) : Option (List Int) := if spOk l = true then some (spSort l) else none
theorem sp_none : (none : Option Nat) = none := rfl
section
open Go.Sort Go.Shelf Go.Lib
theorem ret_i {a b : Int} (h : a = b) : Ending.returned (.int .i64 a) = .returned (.int .i64 b) := by rw [h]
theorem grown2 (W : World) (o1 o2 : Obj) : ∃ m os', ((W.alloc o1).alloc o2).drew = grow (W.drewN m) os' := ⟨1, #[o1, o2], by rw [alloc_eq_grow, alloc_eq_grow, grow_grow]; rfl⟩
set_option maxHeartbeats 4000000 in
set_option maxRecDepth 100000 in
theorem cmp_calls (gb : Nat) (ad : Addr) (n c x y : Nat) (p q : S29) (W : World) (hp : okP p) (hq : okP q) (hx : x < n) (hy : y < n)
  (hgb : gb < W.heap.size) (hbx : (ad.add (x * 3)).block < W.heap.size) (hby : (ad.add (y * 3)).block < W.heap.size) (hbox : W.cell? ⟨gb, 0, none⟩ = some (.slice (some ad) n c))
  (hx0 : W.cell? (ad.add (x * 3)) = some (.int .i64 p.f0)) (hx1 : W.cell? ⟨(ad.add (x * 3)).block, (ad.add (x * 3)).off + 1, none⟩ = some (.int .i64 p.f1)) (hx2 : W.cell? ⟨(ad.add (x * 3)).block, (ad.add (x * 3)).off + 2, none⟩ = some (.int .i64 p.f2))
  (hy0 : W.cell? (ad.add (y * 3)) = some (.int .i64 q.f0)) (hy1 : W.cell? ⟨(ad.add (y * 3)).block, (ad.add (y * 3)).off + 1, none⟩ = some (.int .i64 q.f1)) (hy2 : W.cell? ⟨(ad.add (y * 3)).block, (ad.add (y * 3)).off + 2, none⟩ = some (.int .i64 q.f2)) :
  Calls Try.prog 110 #[.int .i64 x, .int .i64 y, .pointer (some ⟨gb, 0, none⟩)] W fun e w' => e = .returned (.int .i64 (cmpV p q)) ∧ ∃ m os', w' = grow (W.drewN m) os' := by
 obtain ⟨p0, p1, p2, p3⟩ := hp
 obtain ⟨q0, q1, q2, q3⟩ := hq
 have hu29 := Try.underlying29
 go_enter Try.func110, Try.ntmps110
 go_wp2
 have hxi : (x : Int) < (n : Int) := by omega
 have hyi : (y : Int) < (n : Int) := by omega
 go_region
 all_goals go_wp2
 all_goals (go_ret; refine ⟨ret_i (by unfold cmpV; (try simp only [beq_iff_eq, beq_eq_false_iff_ne, ne_eq] at *); by_cases hc : p.f0 = 0 ∨ q.f0 = 0 <;> (first | rw [if_pos hc] | rw [if_neg hc]) <;> omega), grown2 _ _ _⟩)
theorem size_inner {α : Type} [Inhabited α] (lt : α → α → Bool) (a : Nat) : ∀ (j : Nat) (d : Array α), (insInner lt a j d).size = d.size
 | 0, d => rfl
 | j + 1, d => by
  rw [insInner]
  split
  ·rw [size_inner lt a j, size_swp]
  ·rfl
theorem size_outer {α : Type} [Inhabited α] (lt : α → α → Bool) (a b : Nat) : ∀ (m i : Nat) (d : Array α), b - i = m → (insOuter lt a b i d).size = d.size := by
 intro m
 induction m with
 | zero => intro i d h; rw [insOuter, if_neg (by omega)]
 | succ m ih =>
  intro i d h
  rw [insOuter]
  by_cases c : i < b
  ·rw [if_pos c, ih _ _ (by omega), size_inner]
  ·rw [if_neg c]
theorem size_ins {α : Type} [Inhabited α] (lt : α → α → Bool) (d : Array α) (a b : Nat) : (Sort.insertionSort lt d a b).size = d.size := size_outer lt a b _ _ d rfl
theorem ins_none {α : Type} [Inhabited α] (lt : α → α → Bool) (d : Array α) (n : Nat) : Sort.insertionSort lt d n n = d := by
 unfold Sort.insertionSort
 rw [insOuter, if_neg (by omega)]
set_option maxHeartbeats 4000000 in
set_option maxRecDepth 100000 in
theorem stable_under {α : Type} [Inhabited α] (enc : α → Value) (cf : α → α → Int) (g : Nat) (cb : Array Value) (blk cap : Nat) (d : Array α) (w : World) (eg : ∀ args w, (callFunc g args).run Try.prog w = .ok (.enter g args) w)
  (hcmp : CmpLays1 Try.prog g cb enc cf blk 0 d.size w) (R : Row1 enc w blk 0 d) (h20 : d.size < 20) :
  Calls Try.prog 122 #[.slice (some ⟨blk, 0, none⟩) d.size cap, .int .i64 d.size, .func (.func g) #[] cb] w fun e w' => e = .returned (.tuple #[]) ∧ SW enc w blk 0 (Sort.insertionSort (ltOf cf) d 0 d.size) w' := by
 have hc := Try.insertionSortCmpFunc_s enc cf g cb blk 0 cap 0 d.size d d w w eg hcmp R rfl (SW.start R.hH) (Nat.zero_le _) (Nat.le_refl _) (by omega)
 rw [show ((0 : Nat) : Int) = 0 from rfl] at hc
 clear hcmp
 go_enter Try.func122, Try.ntmps122
 go_wp2
 refine wp_loop_rounds 1 ?_
 rw [rounds_succ]
 go_wp2_with ((with_reducible refine hc.mono ?_); rintro e w1 ⟨rfl, S⟩; replace S := Aside0.mk S)
 refine wp_loop_rounds 1 ?_
 rw [rounds_succ]
 go_wp2
 all_goals first | (exfalso; omega) | (go_end0; exact ⟨rfl, S.out⟩)
set_option maxHeartbeats 4000000 in
set_option maxRecDepth 100000 in
theorem stable_at {α : Type} [Inhabited α] (enc : α → Value) (cf : α → α → Int) (g : Nat) (cb : Array Value) (blk cap : Nat) (d : Array α) (w : World) (eg : ∀ args w, (callFunc g args).run Try.prog w = .ok (.enter g args) w)
  (hcmp : CmpLays1 Try.prog g cb enc cf blk 0 d.size w) (R : Row1 enc w blk 0 d) (h20 : d.size = 20) :
  Calls Try.prog 122 #[.slice (some ⟨blk, 0, none⟩) d.size cap, .int .i64 d.size, .func (.func g) #[] cb] w fun e w' => e = .returned (.tuple #[]) ∧ SW enc w blk 0 (Sort.insertionSort (ltOf cf) d 0 d.size) w' := by
 have hc := Try.insertionSortCmpFunc_s enc cf g cb blk 0 cap 0 d.size d d w w eg hcmp R rfl (SW.start R.hH) (Nat.zero_le _) (Nat.le_refl _) (by omega)
 have hn := fun (d1 : Array α) (h1 : d.size = d1.size) w1 S => Try.insertionSortCmpFunc_s enc cf g cb blk 0 cap 20 20 d d1 w w1 eg hcmp R h1 S (Nat.le_refl _) (by omega) (by omega)
 have hz : d.size = (Sort.insertionSort (ltOf cf) d 0 20).size := (size_ins _ d 0 20).symm
 rw [h20] at hc ⊢
 have hn2 := hn _ hz
 rw [← hz, h20] at hn2
 rw [show ((0 : Nat) : Int) = 0 from rfl, show ((20 : Nat) : Int) = 20 from rfl] at hc
 rw [show ((20 : Nat) : Int) = 20 from rfl] at hn2 ⊢
 clear hcmp hn
 go_enter Try.func122, Try.ntmps122
 go_wp2
 refine wp_loop_rounds 2 ?_
 rw [rounds_succ]
 go_wp2_with ((with_reducible refine hc.mono ?_); rintro e w1 ⟨rfl, S⟩; replace S := Aside0.mk S)
 rw [rounds_succ]
 go_wp2_with ((with_reducible refine (hn2 _ S.out).mono ?_); rintro e w2 ⟨rfl, S2⟩; replace S2 := Aside0.mk S2)
 refine wp_loop_rounds 1 ?_
 rw [rounds_succ]
 go_wp2
 go_end0
 exact ⟨rfl, by have := S2.out; rwa [ins_none] at this⟩
theorem stable_calls {α : Type} [Inhabited α] (enc : α → Value) (cf : α → α → Int) (g : Nat) (cb : Array Value) (blk cap : Nat) (d : Array α) (w : World) (eg : ∀ args w, (callFunc g args).run Try.prog w = .ok (.enter g args) w)
  (hcmp : CmpLays1 Try.prog g cb enc cf blk 0 d.size w) (R : Row1 enc w blk 0 d) (h20 : d.size ≤ 20) :
  Calls Try.prog 122 #[.slice (some ⟨blk, 0, none⟩) d.size cap, .int .i64 d.size, .func (.func g) #[] cb] w fun e w' => e = .returned (.tuple #[]) ∧ SW enc w blk 0 (Sort.insertionSort (ltOf cf) d 0 d.size) w' := by
 by_cases h : d.size = 20
 ·exact stable_at enc cf g cb blk cap d w eg hcmp R h
 ·exact stable_under enc cf g cb blk cap d w eg hcmp R (by omega)
set_option maxHeartbeats 4000000 in
set_option maxRecDepth 100000 in
theorem sortstable_calls {α : Type} [Inhabited α] (enc : α → Value) (cf : α → α → Int) (g : Nat) (cb : Array Value) (blk cap : Nat) (d : Array α) (w : World) (eg : ∀ args w, (callFunc g args).run Try.prog w = .ok (.enter g args) w)
  (hcmp : CmpLays1 Try.prog g cb enc cf blk 0 d.size w) (R : Row1 enc w blk 0 d) (h20 : d.size ≤ 20) :
  Calls Try.prog 109 #[.slice (some ⟨blk, 0, none⟩) d.size cap, .func (.func g) #[] cb] w fun e w' => e = .returned (.tuple #[]) ∧ SW enc w blk 0 (Sort.insertionSort (ltOf cf) d 0 d.size) w' := by
 have hc := stable_calls enc cf g cb blk cap d w eg hcmp R h20
 clear hcmp
 go_enter Try.func109, Try.ntmps109
 go_wp2_with ((with_reducible refine hc.mono ?_); rintro e w1 ⟨rfl, S⟩; replace S := Aside0.mk S)
 go_end0
 exact ⟨rfl, S.out⟩
theorem sw_cell {α : Type} [Inhabited α] (enc : α → Value) (w : World) (g m : Nat) (dk : Array α) (os : Array Obj) (a : Addr) (v : Value) (h : w.cell? a = some v) (hne : a.block ≠ g) : (sortWorld enc w g 0 m dk os).cell? a = some v := by
 have hlt : a.block < w.heap.size := World.block_lt_of_cell? w _ h
 unfold sortWorld
 rw [cell?_grow _ _ _ (by rw [size_putRow]; exact hlt), cell?_putRow_other enc _ g 0 _ _ (Or.inl hne)]
 exact h
theorem add_block (ad : Addr) (k : Nat) : (ad.add k).block = ad.block := by unfold Addr.add; split <;> rfl
theorem sp_cmp (l : List S29) (gb g : Nat) (A0 : Option Addr) (c0 : Nat) (w : World) (hbox : w.cell? ⟨gb, 0, none⟩ = some (.slice A0 l.length c0)) (hr : Kd.C k29 w A0 l.length l) (hok : spOk l = true) (hne : gb ≠ g) (hng : ∀ ad, A0 = some ad → ad.block ≠ g) (size : Nat) :
  CmpLays1 Try.prog 110 #[.pointer (some ⟨gb, 0, none⟩)] (spEnc l.length) (spCf l) g 0 size w := by
 unfold spOk at hok
 rw [Bool.and_eq_true, decide_eq_true_eq, List.all_eq_true] at hok
 obtain ⟨⟨hn1, hn2⟩, hv⟩ := hok
 intro m os dk _ x y
 have hx : x % l.length < l.length := Nat.mod_lt _ (by omega)
 have hy : y % l.length < l.length := Nat.mod_lt _ (by omega)
 obtain ⟨ad, e1, x0, x1, x2⟩ := at_T29 hr ((x % l.length : Nat) : Int) (by omega) (by omega)
 obtain ⟨ad', e2, y0, y1, y2⟩ := at_T29 hr ((y % l.length : Nat) : Int) (by omega) (by omega)
 subst e1
 obtain rfl : ad = ad' := by injection e2
 rw [Int.toNat_natCast] at x0 x1 x2 y0 y1 y2
 have hg : ∀ k, (ad.add k).block ≠ g := fun k => by rw [add_block]; exact hng ad rfl
 have ht : ∀ i : Nat, rd_T29 l (i : Int) = l.getD i z29 := fun i => by unfold rd_T29; rw [Int.toNat_natCast]
 rw [ht] at x0 x1 x2 y0 y1 y2
 have hp : ∀ i, i < l.length → okP (l.getD i z29) := fun i hi => by
  rw [List.getD_eq_getElem?_getD, List.getElem?_eq_getElem hi]
  have h_ := hv _ (List.getElem_mem hi)
  rw [decide_eq_true_eq] at h_
  exact h_
 have hle : w.heap.size ≤ (sortWorld (spEnc l.length) w g 0 m dk os).heap.size := SW.le ⟨m, os, rfl⟩
 have X0 := sw_cell (spEnc l.length) w g m dk os _ _ x0 (hg _)
 have X1 := sw_cell (spEnc l.length) w g m dk os _ _ x1 (hg _)
 have X2 := sw_cell (spEnc l.length) w g m dk os _ _ x2 (hg _)
 have Y0 := sw_cell (spEnc l.length) w g m dk os _ _ y0 (hg _)
 have Y1 := sw_cell (spEnc l.length) w g m dk os _ _ y1 (hg _)
 have Y2 := sw_cell (spEnc l.length) w g m dk os _ _ y2 (hg _)
 exact cmp_calls gb ad l.length c0 (x % l.length) (y % l.length) _ _ _ (hp _ hx) (hp _ hy) hx hy (World.block_lt_of_cell? _ _ (sw_cell (spEnc l.length) w g m dk os _ _ hbox hne)) (World.block_lt_of_cell? _ _ X0) (World.block_lt_of_cell? _ _ Y0) (sw_cell (spEnc l.length) w g m dk os _ _ hbox hne) X0 X1 X2 Y0 Y1 Y2
theorem encs_range (n : Nat) : encs (Value.int .i64) ((List.range n).map Int.ofNat) = (List.range n).map (spEnc n) := by
 unfold encs
 rw [List.map_map]
 apply List.map_congr_left
 intro x hx
 have hx := List.mem_range.1 hx
 show Value.int .i64 (Int.ofNat x) = spEnc n x
 unfold spEnc
 rw [Nat.mod_eq_of_lt hx]; rfl
/-- behind the sort -/
theorem sp_after (l : List S29) (g cap base : Nat) (wr w1 : World) (hR : Kd.R (Kd.int .i64) 3 wr base (fun _ => True) (.slice (some ⟨g, 0, none⟩) l.length cap) ((List.range l.length).map Int.ofNat))
  (S : SW (spEnc l.length) wr g 0 (Sort.insertionSort (ltOf (spCf l)) (List.range l.length).toArray 0 l.length) w1) : Kd.R (Kd.int .i64) 3 w1 base (fun _ => True) (.slice (some ⟨g, 0, none⟩) l.length cap) (spSort l) := by
 have ho := Kd.own_of_R hR
 rw [encs_range, List.length_map, List.length_range] at ho
 obtain ⟨m, os, rfl⟩ := S
 have hlt : g < wr.heap.size := by
  obtain ⟨_, hx⟩ := ho
  rcases hx with ⟨e, _⟩ | ⟨g', cap', cur, e, _, hg, _⟩
  ·cases e
  ·injection e with e _ _
   injection e with e
   injection e with e
   subst e
   exact blk_lt hg
 generalize hd : Sort.insertionSort (ltOf (spCf l)) (List.range l.length).toArray 0 l.length = d
 have hs : d.toList.length = l.length := by rw [← hd, Array.length_toList, size_ins]; simp
 have hb := Lib.ownsRow_putRow (q := m) (k := l.length) (ys := d.toList) ho hs (Nat.le_refl _)
 rw [Array.toArray_toList, List.take_of_length_le (by omega)] at hb
 have e : spSort l = d.toList.map (fun x => ((x % l.length : Nat) : Int)) := by unfold spSort; rw [hd]
 have hl : (spSort l).length = l.length := by rw [e, List.length_map, hs]
 refine Kd.R_of_own (h1 := fun _ => rfl) ?_ (fun _ _ => trivial)
 rw [hl, e]
 have e2 : encs (Value.int .i64) (d.toList.map (fun x => ((x % l.length : Nat) : Int))) = d.toList.map (spEnc l.length) := by unfold encs; rw [List.map_map]; rfl
 rw [e2]
 refine own_move hb (fun k hk => ?_)
 have hk : k = g := by simpa [Value.ownBlock] using hk.symm
 subst hk
 unfold sortWorld
 exact heap_grow_old _ _ (by rw [size_putRow]; exact hlt)
theorem sp_below {α : Type} [Inhabited α] {enc : α → Value} {d : Array α} {B g : Nat} {w wr w1 : World} (hb : Below B w wr) (hg : B ≤ g) (hB : B ≤ wr.heap.size) (S : SW enc wr g 0 d w1) : Below B w w1 := by
 obtain ⟨m, os, rfl⟩ := S
 unfold sortWorld
 have h := Lib.below_putRow (enc := enc) (q := m) (d := d) hb hg
 exact ⟨h.os, h.tape, h.output, Nat.le_trans h.size (by simp [grow]), fun k hk => by rw [heap_grow_old _ _ (by rw [size_putRow]; exact Nat.lt_of_lt_of_le hk hB)]; exact h.block k hk⟩
set_option maxHeartbeats 8000000 in
set_option maxRecDepth 100000 in
theorem impl_sortedPieces.calls (A0 : Option Addr) (c0 : Nat) (l0 : List S29) (r : List Int) (w : World) (hr0 : Kd.C k29 w A0 l0.length l0) (hc0 : l0.length ≤ c0) (h : impl_sortedPieces.f l0 = some r) :
 Calls Try.prog 76 #[.slice A0 l0.length c0] w fun e w' => ∃ v0_ : Value, e = .returned (v0_) ∧ Kd.R (Kd.int .i64) 3 w' w.heap.size (fun _ => True) v0_ r ∧ Below w.heap.size w w' := by
 unfold impl_sortedPieces.f at h
 by_cases hok : spOk l0 = true
 ·rw [if_pos hok] at h
  obtain rfl := Option.some.inj h
  clear h
  have hn : 1 ≤ l0.length ∧ l0.length ≤ 20 := by unfold spOk at hok; rw [Bool.and_eq_true, decide_eq_true_eq] at hok; exact hok.1
  have hn1 := hn.1
  have hn2 := hn.2
  clear hn
  have HOK := Aside0.mk hok
  clear hok
  have HR0 := Aside0.mk hr0
  clear hr0
  have HB := Aside0.mk (Below.refl w.heap.size w)
  go_enter Try.func76, Try.ntmps76
  go_wp2_with (first | ((with_reducible refine gate_dst (N := 1) rfl ?_); refine box_event ?hg (N := 1) ?hd (cs := #[.slice A0 l0.length c0]) (t := 42) ?hr ?_; (case hd => rfl); (case hg => rfl); (case hr => first | (go_simp; done) | (go_simp; rfl)); intro gb1 hg w4 hbox hb; have BK1 := Aside0.mk (hbox); have GE1 := gs_ hg HB; replace HB := hbs_ HB hb; clear hb hbox hg; have hcz1 : w4.cell? ⟨gb1, 0, none⟩ = some (.slice A0 l0.length c0) := (blk_cell BK1.out 0).trans rfl) | ((with_reducible refine gate_dst (N := 5) rfl ?_); refine Kd.R_lit (Kd.int .i64) _ 3 ?hg (N := 5) ?hd (xs := ([] : List Int)) (inner := []) (ok := fun _ => True) (okp := fun _ => True) ?hr ?hp (fun _ hk => hk) trivial (Below.refl _ _) (Nat.le_refl _) (by simp) ?_; (case hd => rfl); (case hg => rfl); (case hr => first | (go_simp; done) | (go_simp; rfl)); (case hp => exact (Reps.none _ _)); intro v5 w5 ho5 hb hg_ hnew_; clear hg_ hnew_; have HO5 := Kd.R_lo ho5 HB; replace BK1 := kb_ BK1 hb; replace HB := hbs_ HB hb; clear hb ho5 hcz1; have hcz1 : w5.cell? ⟨gb1, 0, none⟩ = some (.slice A0 l0.length c0) := (blk_cell BK1.out 0).trans rfl))
  go_loopg [3, 8] l0.length (fun kq v3 v8 w' => ∃ (i : Nat), v8 = .int .i64 (i : Int) ∧ i ≤ l0.length ∧ l0.length - i ≤ kq ∧ Aside0 (Kd.R (Kd.int .i64) 3 w' w.heap.size (fun _ => True) v3 ((List.range i).map Int.ofNat)) ∧ Aside0 (w'.heap[gb1]? = some (.cells #[.slice A0 l0.length c0] 42 (0, 0))) ∧ Aside0 (Below w.heap.size w w'))
  case atStart => exact ⟨0, rfl, Nat.zero_le _, Nat.le_refl _, ⟨Kd.R_p HO5⟩, ⟨kp_ BK1⟩, ⟨hb_ HB⟩⟩
  case round =>
   clear HO5 BK1 HB
   (try clear hcz1)
   obtain ⟨i, rfl, hi, hik, HO, BK, HB⟩ := hrel
   by_cases hlt : i < l0.length
   ·have hltz : (i : Int) < (l0.length : Int) := by omega
    have HL := Aside0.mk (show ((List.range i).map Int.ofNat).length + 1 < 17592186044416 by simp; omega)
    obtain ⟨ys, hys⟩ : ∃ ys : List Int, ys = (List.range i).map Int.ofNat := ⟨_, rfl⟩
    rw [← hys] at HO HL
    have Hys := Aside0.mk hys
    clear hys
    go_wp2_with (first | ((with_reducible refine gate_builtin (b := .append) (xs := #[.tmp 11, .tmp 13]) rfl ?_); at_builtin; refine Kd.R_append (Kd.int .i64) (w0 := w) w.heap.size rfl (.tmp 11) (.tmp 13) 24 3 (.int .i64 0) 8 rfl Try.underlying24 info3 rfl (by decide) (by omega) _ ys (i : Int) [.int .i64 (i : Int)] (fun _ => True) (fun _ => False) rfl rfl ?aP (fun _ hk => hk.elim) ?aF ?aO ?aB ?aS ?aL ?_; (case aP => exact rfl); (case aB => exact (hb_ HB)); (case aF => exact (fun _ _ => trivial)); (case aO => exact (Kd.R_p HO)); (case aS => exact (below_size (hb_ HB))); (case aL => have := HL.out; omega); intro v6 w6 ho hb hg hat; have HO6 := Aside0.mk (ho); replace BK := Aside0.mk (blk_grown (kp_ BK) hg (Kd.R_ne HO.out BK.out (by decide))); replace HB := Aside0.mk (hb); clear HO; clear ho hb hg hat))
    go_roundg (l0.length - (i + 1))
    case measure => omega
    case rel => exact ⟨i + 1, by first | rfl | go_num, by omega, by omega, ⟨by have e_ : (List.range (i + 1)).map Int.ofNat = ys ++ [(i : Int)] := (by rw [Hys.out, List.range_succ, List.map_append]; rfl); rw [e_]; exact Kd.R_p HO6⟩, ⟨kp_ BK⟩, ⟨hb_ HB⟩⟩
   ·obtain rfl : i = l0.length := by omega
    clear hlt hik hi
    have hltz : ¬ ((l0.length : Int) < (l0.length : Int)) := by omega
    obtain ⟨go, cap, eo, gb, gl, cl, HG⟩ := Kd.R_form HO.out (by simp; omega)
    rw [List.length_map, List.length_range] at eo
    subst eo
    have hne : gb1 ≠ go := by rintro rfl; rw [BK.out] at HG; injection HG with HG; injection HG with _ HG; cases HG
    have hcz : wr.cell? ⟨gb1, 0, none⟩ = some (.slice A0 l0.length c0) := (blk_cell BK.out 0).trans rfl
    have hng : ∀ ad, A0 = some ad → ad.block ≠ go := by
     intro ad he
     obtain ⟨ad', e1, x0, _, _⟩ := at_T29 HR0.out 0 (by omega) (by omega)
     obtain rfl : ad = ad' := by rw [he] at e1; injection e1
     have h1 := World.block_lt_of_cell? w _ x0
     rw [add_block] at h1
     omega
    have hcmp := sp_cmp l0 gb1 go A0 c0 wr hcz (Kd.C_w HR0 HB) HOK.out hne hng (List.range l0.length).toArray.size
    obtain ⟨g2, cap2, e2, _, hglt, _, _, _, hh⟩ := Lib.holds_of_ownsRow (by have h_ := Kd.own_of_R HO.out; rw [encs_range] at h_; exact h_) (by simp)
    obtain ⟨rfl, rfl⟩ : go = g2 ∧ cap = cap2 := by injection e2 with f1 _ f3; injection f1 with f1; injection f1 with f1; exact ⟨f1, f3⟩
    clear e2
    have hcall := sortstable_calls (spEnc l0.length) (spCf l0) 110 #[.pointer (some ⟨gb1, 0, none⟩)] go cap (List.range l0.length).toArray wr (enters_of Try.func110 (by kernel_rfl) rfl) hcmp ⟨fun _ => rfl, hh, hglt⟩ (by simp; omega)
    have hsz : (List.range l0.length).toArray.size = l0.length := by simp
    rw [hsz] at hcall
    clear hcmp hh hng hsz
    go_wp2_with ((with_reducible refine hcall.mono ?_); rintro e w7 ⟨rfl, S⟩; replace S := Aside0.mk S; have HO7 := Aside0.mk (sp_after l0 go cap _ _ _ HO.out S.out); replace HB := Aside0.mk (sp_below HB.out gb (Below.size HB.out) S.out); clear S HO BK)
    go_ret
    exact ⟨_, by first | rfl | (simp; done), Kd.R_p HO7, hb_ HB⟩
 ·rw [if_neg hok] at h
  cases h
end

/-! ### impl_SortPieces: function 31 -/
def impl_SortPieces.f (k : Nat) (l0 : List (S29)) : Option (List Int × Bool) := (impl_arePieces.f k l0).bind fun t192 => (if t192 = true then ((impl_sortedPieces.f l0).bind fun t193 => (some (t193, true))) else (some (([] : List Int), false)))
set_option maxHeartbeats 8000000 in
set_option maxRecDepth 100000 in
theorem impl_SortPieces.calls (k : Nat) (A0 : Option Addr) (c0 : Nat) (l0 : List (S29)) (r1 : List Int) (r2 : Bool) (w : World) (hr0 : Kd.C k29 w A0 l0.length l0) (hc0 : l0.length ≤ c0) (h : impl_SortPieces.f k l0 = some (r1, r2)) :
  Calls Try.prog 31 #[.slice A0 l0.length c0] w fun e w' => ∃ v0_ : Value, e = .returned (.tuple #[v0_, .bool r2]) ∧ Kd.R (Kd.int .i64) 3 w' w.heap.size (fun _ => True) v0_ r1 ∧ Below w.heap.size w w' := by
 have HR0 := Aside0.mk hr0
 have HC0 := Aside0.mk hc0
 clear hr0 hc0
 have HB := Aside0.mk (Below.refl w.heap.size w)
 have H : ((impl_arePieces.f k l0).bind fun t192 => (if t192 = true then ((impl_sortedPieces.f l0).bind fun t193 => (some (t193, true))) else (some (([] : List Int), false)))) = some (r1, r2) := h
 clear h
 replace H := Option.bind_eq_some_iff.mp H
 obtain ⟨t192, A20, H⟩ := H
 replace H : (if t192 = true then ((impl_sortedPieces.f l0).bind fun t193 => (some (t193, true))) else (some (([] : List Int), false))) = some (r1, r2) := H
 have A2 := Aside0.mk A20
 clear A20
 by_cases c3 : t192 = true
 ·subst c3
  have H1 : ((impl_sortedPieces.f l0).bind fun t193 => (some (t193, true))) = some (r1, r2) := by rw [if_pos rfl] at H; exact H
  clear H
  have H := H1
  clear H1
  replace H := Option.bind_eq_some_iff.mp H
  obtain ⟨t193, A40, H⟩ := H
  replace H : (some (t193, true)) = some (r1, r2) := H
  have A4 := Aside0.mk A40
  clear A40
  simp only [Option.some.injEq, Prod.mk.injEq] at H
  obtain ⟨rfl, rfl⟩ := H
  go_enter Try.func31, Try.ntmps31
  go_wp2_with (first | ((with_reducible refine gate_callee (f := 68) rfl ?_); refine gl_ (some 5) Try.func68 #[.slice A0 l0.length c0] rfl rfl rfl ?_; (with_reducible refine (impl_arePieces.calls k _ _ l0 true _ ?side1 ?side2 A2.out).mono ?_); (case side1 => repeat (first | exact HR0.out | (with_reducible refine Kd.C_alloc ?_ _) | (with_reducible refine Kd.C_drewN ?_ _) | (with_reducible refine Kd.C_drew ?_))); (case side2 => exact HC0.out); rintro e w5 ⟨rfl, hb⟩; refine ⟨_, rfl, ?_⟩; replace HB := hbs_ HB hb; (try clear hb); (try clear hb2); (try clear hk); (try clear hi)) | ((with_reducible refine gate_callee (f := 76) rfl ?_); refine gl_ (some 8) Try.func76 #[.slice A0 l0.length c0] rfl rfl rfl ?_; (with_reducible refine (impl_sortedPieces.calls _ _ l0 t193 _ ?side1 ?side2 A4.out).mono ?_); (case side1 => exact Kd.C_w HR0 HB); (case side2 => exact HC0.out); rintro e w6 ⟨v194, rfl, ho0, hb⟩; refine ⟨_, rfl, ?_⟩; have HO195 := Kd.R_lo ho0 HB; replace HB := hbs_ HB hb; (try clear hb); (try clear hb2); (try clear hk); (try clear hi); (try clear ho0)))
  go_ret2
  exact ⟨_, by first | rfl | (simp [errW_none, errW_some] <;> rfl) | (simp [*, errW_none, errW_some] <;> rfl), Kd.R_p HO195, hb_ HB⟩
 ·replace c3 := Bool.eq_false_iff.mpr c3
  subst c3
  have H1 : (some (([] : List Int), false)) = some (r1, r2) := by rw [if_neg (show ¬ (false = true) by decide)] at H; exact H
  clear H
  have H := H1
  clear H1
  simp only [Option.some.injEq, Prod.mk.injEq] at H
  obtain ⟨rfl, rfl⟩ := H
  go_enter Try.func31, Try.ntmps31
  go_wp2_with (first | ((with_reducible refine gate_callee (f := 68) rfl ?_); refine gl_ (some 5) Try.func68 #[.slice A0 l0.length c0] rfl rfl rfl ?_; (with_reducible refine (impl_arePieces.calls k _ _ l0 false _ ?side1 ?side2 A2.out).mono ?_); (case side1 => repeat (first | exact HR0.out | (with_reducible refine Kd.C_alloc ?_ _) | (with_reducible refine Kd.C_drewN ?_ _) | (with_reducible refine Kd.C_drew ?_))); (case side2 => exact HC0.out); rintro e w7 ⟨rfl, hb⟩; refine ⟨_, rfl, ?_⟩; replace HB := hbs_ HB hb; (try clear hb); (try clear hb2); (try clear hk); (try clear hi)))
  go_ret2
  exact ⟨_, by first | rfl | (simp [errW_none, errW_some] <;> rfl) | (simp [*, errW_none, errW_some] <;> rfl), by first | exact Kd.R_nil _ _ _ _ _ | exact Kd.N_nil _ _ _ _ _ | exact Kd.V_nil _ _ _ _ _ | exact Kd.Q_nil _ _ _ _ _ | exact Kd.S_nil _ _ _ _ _, hb_ HB⟩

/-! ### laws_heldIntS: function 32 -/
def laws_heldIntS.l0 : Nat → List Int → Int → Int → Option (Int)
 | 0, _, _, _ => none
 | k + 1, x0, x1, x5 => if x5 < (x0.length : Int) then (if 0 ≤ x5 then (if (rd x0 x5) = x1 then (laws_heldIntS.l0 k x0 (wrap64 (x1 + 1)) (wrap64 (x5 + 1))) else (some (-1))) else (none)) else (some x1)
def laws_heldIntS.f (k : Nat) (l0 : List Int) (a1 : Int) : Option (Int) := laws_heldIntS.l0 k l0 a1 0
set_option maxHeartbeats 8000000 in
set_option maxRecDepth 100000 in
theorem laws_heldIntS.calls (k : Nat) (A0 : Option Addr) (c0 : Nat) (l0 : List Int) (a1 : Int) (r : Int) (w : World) (hr0 : Kd.C (Kd.int .i64) w A0 l0.length l0) (hc0 : l0.length ≤ c0) (h : laws_heldIntS.f k l0 a1 = some r) :
  Calls Try.prog 32 #[.slice A0 l0.length c0, .int .i64 a1] w fun e w' => e = .returned (.int .i64 r) ∧ Drawn0 w w' := by
 have HR0 := Aside0.mk hr0
 have HC0 := Aside0.mk hc0
 clear hr0 hc0
 have H : (laws_heldIntS.l0 k l0 a1 0) = some r := h
 clear h
 have H' := Aside0.mk H
 clear H
 go_enter Try.func32, Try.ntmps32
 go_wp2
 go_loopg [1, 5] k (fun kq v1 v5 w' => ∃ (x1_1 : Int) (x5_1 : Int), v1 = .int .i64 x1_1 ∧ v5 = .int .i64 x5_1 ∧ Aside0 (laws_heldIntS.l0 kq l0 x1_1 x5_1 = some r) ∧ Aside0 (kq ≤ k) ∧ Drawn0 w w')
 case atStart => exact ⟨(a1), (0), (by first | rfl | (simp; done) | (simp [*]; done)), (by first | rfl | (simp; done) | (simp [*]; done)), H', ⟨Nat.le_refl _⟩, by repeat (first | exact Drawn0.refl _ | apply Drawn0.step)⟩
 case round =>
  clear H'
  (try clear p2)
  obtain ⟨x1_1, x5_1, rfl, rfl, HA, HK1, ⟨m1, rfl⟩⟩ := hrel
  cases gk with
  | zero => exact absurd HA.out (by simp [laws_heldIntS.l0])
  | succ k1 =>
   have H := HA.out
   clear HA
   simp only [laws_heldIntS.l0] at H
   by_cases c3 : x5_1 < (l0.length : Int)
   ·rw [if_pos c3] at H
    have c3b0 : decide (x5_1 < (l0.length : Int)) = true := decide_eq_true c3
    clear c3
    by_cases c4 : 0 ≤ x5_1
    ·rw [if_pos c4] at H
     have c4b0 : decide (0 ≤ x5_1) = true := decide_eq_true c4
     clear c4
     by_cases c5 : (rd l0 x5_1) = x1_1
     ·rw [if_pos c5] at H
      have c5b0 : ((rd l0 x5_1) == x1_1) = true := beq_iff_eq.mpr c5
      have c5b1 : ((rd l0 x5_1) != x1_1) = false := bne_eq_false_iff_eq.mpr c5
      clear c5
      have H' := Aside0.mk H
      clear H
      have p196 : 0 ≤ (x5_1 : Int) := of_decide_eq_true (by first | (with_reducible assumption) | assumption)
      have q196 : x5_1 < (l0.length : Int) := of_decide_eq_true (by first | (with_reducible assumption) | assumption)
      obtain ⟨ad196, e196, hx196_0⟩ := Kd.at_int HR0.out x5_1 p196 q196
      cases e196
      replace p196 := eq_true p196
      replace q196 := eq_true q196
      go_wp2
      go_roundg k1
      case measure => have := HK1.out; omega
      case rel => exact ⟨(wrap64 (x1_1 + 1)), (wrap64 (x5_1 + 1)), (by first | rfl | (simp; done) | (simp [*]; done)), (by first | rfl | (simp; done) | (simp [*]; done)), H', ⟨by have := HK1.out; omega⟩, by repeat (first | exact Drawn0.refl _ | apply Drawn0.step)⟩
     ·rw [if_neg c5] at H
      have c5b0 : ((rd l0 x5_1) == x1_1) = false := beq_eq_false_iff_ne.mpr c5
      have c5b1 : ((rd l0 x5_1) != x1_1) = true := bne_iff_ne.mpr c5
      obtain rfl := Option.some.inj H
      have p196 : 0 ≤ (x5_1 : Int) := of_decide_eq_true (by first | (with_reducible assumption) | assumption)
      have q196 : x5_1 < (l0.length : Int) := of_decide_eq_true (by first | (with_reducible assumption) | assumption)
      obtain ⟨ad196, e196, hx196_0⟩ := Kd.at_int HR0.out x5_1 p196 q196
      cases e196
      replace p196 := eq_true p196
      replace q196 := eq_true q196
      go_wp2
      go_ret
      exact ⟨by first | rfl | (simp; done) | (simp [*]; done), by repeat (first | exact Drawn0.refl _ | apply Drawn0.step)⟩
    ·rw [if_neg c4] at H
     exact absurd H (by simp)
   ·rw [if_neg c3] at H
    have c3b0 : decide (x5_1 < (l0.length : Int)) = false := decide_eq_false c3
    clear c3
    obtain rfl := Option.some.inj H
    go_wp2
    go_ret
    exact ⟨by first | rfl | (simp; done) | (simp [*]; done), by repeat (first | exact Drawn0.refl _ | apply Drawn0.step)⟩

end Go.Proofs.Ytceajigggcihnaa.PFnExactSortPieces
