-- Laid for this claim by wip/tools/print2.sh, a changed copy of the kit's print (wip/tools/patch_print.py): not by print.sh.
import Derived.Test.YtceajigggcihnaaPFnCoarsex8
import Derived.Test.YtceajigggcihnaaPFnCoarsex18
import Derived.Test.YtceajigggcihnaaVFnCoarse
namespace Go.Proofs.Ytceajigggcihnaa.PFnCoarse
open Go.RowKit Go.Proofs.YtceajigggcihnaaW.PrintWords Go.Proofs.YtceajigggcihnaaW.PrintLast Go.Proofs.YtceajigggcihnaaW.PrintMore
attribute [local go_sem] max2_int min2_int max_two min_two max_three min_three max_four min_four
set_option linter.unusedVariables false
set_option linter.unusedSimpArgs false

/-! ### spec_l1Cur_pieces: function 96 -/
mutual
def spec_l1Cur_pieces.j0 : Nat → List (S29) → Int → List Int → Int → Int → Option ((List (S29)) × Int × Int)
 | 0, _, _, _, _, _ => none
 | k + 1, x3, x4, x1000, x1001, x1002 => spec_l1Cur_pieces.l0 k x3 x4 x1000 x1001 x1002
def spec_l1Cur_pieces.l0 : Nat → List (S29) → Int → List Int → Int → Int → Option ((List (S29)) × Int × Int)
 | 0, _, _, _, _, _ => none
 | k + 1, x3, x4, x1000, x1001, x1002 => if (x3.length : Int) < x4 then ((spec_l1Cur_piece.f k x1000 x1001 x1002).bind fun bt664 => (if x3.length < 5864062014805 then (spec_l1Cur_pieces.l0 k (x3 ++ [(⟨bt664.1, bt664.2.1, bt664.2.2.1⟩ : S29)]) x4 x1000 bt664.2.2.2.1 bt664.2.2.2.2) else (none))) else (some (x3, x1001, x1002))
end
def spec_l1Cur_pieces.f (k : Nat) (s0_0 : List Int) (s0_1 : Int) (s0_2 : Int) : Option ((List (S29)) × Int × Int) := (spec_l1Cur_pick.f s0_0 s0_1 s0_2 6).bind fun bt652 => ((spec_l1Cur_one.f s0_0 bt652.2.1 bt652.2.2 20).bind fun bt655 => (if bt655.1 = true then ((spec_l1Cur_among.f s0_0 bt655.2.1 bt655.2.2 (([0, 20, 21] : List Int))).bind fun bt661 => (spec_l1Cur_pieces.j0 k ([] : List (S29)) bt661.1 s0_0 bt661.2.1 bt661.2.2)) else (spec_l1Cur_pieces.j0 k ([] : List (S29)) (wrap64 (1 + bt652.1)) s0_0 bt655.2.1 bt655.2.2)))
set_option maxHeartbeats 8000000 in
set_option maxRecDepth 100000 in
theorem spec_l1Cur_pieces.calls (k : Nat) (g : Nat) (s0_0 : List Int) (s0_1 : Int) (s0_2 : Int) (r1 : List (S29)) (r2 : Int) (r3 : Int) (w0 w : World) (hI : IsS106 w0 w g s0_0 s0_1 s0_2) (hB : Below w0.heap.size w0 w) (h : spec_l1Cur_pieces.f k s0_0 s0_1 s0_2 = some (r1, r2, r3)) :
  Calls Try.prog 96 #[.pointer (some ⟨g, 0, none⟩)] w fun e w' => ∃ v0_ : Value, e = .returned (v0_) ∧ Kd.R k29 29 w' w.heap.size (fun _ => True) v0_ r1 ∧ IsS106 w0 w' g s0_0 r2 r3 ∧ Below w0.heap.size w0 w' ∧ KeepBut w w' g none := by
 have HI0 := Aside0.mk hI
 have HK := Aside0.mk (KeepBut.refl w g none)
 have HL := Aside0.mk hB.size
 clear hI
 have HW0 := Aside0.mk hB.size
 have HB := Aside0.mk hB
 clear hB
 have H := h
 unfold spec_l1Cur_pieces.f at H
 clear h
 replace H := Option.bind_eq_some_iff.mp H
 obtain ⟨⟨t652, t653, t654⟩, A20, H⟩ := H
 try dsimp only at H
 have A2 := Aside0.mk A20
 clear A20
 replace H := Option.bind_eq_some_iff.mp H
 obtain ⟨⟨t655, t656, t657⟩, A30, H⟩ := H
 try dsimp only at H
 have A3 := Aside0.mk A30
 clear A30
 have HC4 := Aside0.mk H
 clear H
 go_enter Try.func96, Try.ntmps96
 go_upto_if 9 with (first | ((with_reducible refine gate_callee (f := 87) rfl ?_); refine gl_ (some 6) Try.func87 #[.pointer (some ⟨g, 0, none⟩), .int .i64 6] rfl rfl rfl ?_; (with_reducible refine (spec_l1Cur_pick.calls g s0_0 s0_1 s0_2 6 t652 t653 t654 w0 _ ?side1 ?side2 A2.out).mono ?_); (case side1 => exact IsS106.q HI0); (case side2 => exact hbI_ HB (IsS106.ge HI0.out)); rintro e w5 ⟨rfl, hi, hb, hk⟩; refine ⟨_, rfl, ?_⟩; replace HK := Aside0.mk (KeepBut.trans (hk_ HK) hk (.inl rfl)); replace HB := Aside0.mk (hb); replace HI0 := Aside0.mk (hi)) | ((with_reducible refine gate_callee (f := 88) rfl ?_); refine gl_ (some 9) Try.func88 #[.pointer (some ⟨g, 0, none⟩), .int .i64 20] rfl rfl rfl ?_; (with_reducible refine (spec_l1Cur_one.calls g s0_0 t653 t654 20 t655 t656 t657 w0 _ ?side1 ?side2 A3.out).mono ?_); (case side1 => exact IsS106.q HI0); (case side2 => exact hbI_ HB (IsS106.ge HI0.out)); rintro e w6 ⟨rfl, hi, hb, hk⟩; refine ⟨_, rfl, ?_⟩; replace HK := Aside0.mk (KeepBut.trans (hk_ HK) hk (.inl rfl)); replace HB := Aside0.mk (hb); replace HI0 := Aside0.mk (hi)))
 (try simp only [Act.put, List.setIfInBounds_toArray, List.set_cons_zero, List.set_cons_succ])
 go_cut [4] (fun v4 wc => ∃ (kq : Nat) (x4_3 : Int) (x1001_3 : Int) (x1002_3 : Int), v4 = .int .i64 x4_3 ∧ Aside0 (spec_l1Cur_pieces.j0 kq ([] : List (S29)) x4_3 s0_0 x1001_3 x1002_3 = some (r1, r2, r3)) ∧ Aside0 (kq ≤ k) ∧ Aside0 (Kd.R k29 29 wc w.heap.size (fun _ => True) (.slice none 0 0) ([] : List (S29))) ∧ Aside0 (IsS106 w0 wc g s0_0 x1001_3 x1002_3) ∧ Aside0 (KeepBut w wc g none) ∧ Aside0 (Below w0.heap.size w0 wc))
 case first =>
  have H := HC4.out
  clear HC4
  by_cases c7 : t655 = true
  ·subst c7
   rw [if_pos rfl] at H
   obtain ⟨y658, hy658⟩ : ∃ y_ : List Int, y_ = (([0, 20, 21] : List Int)) := ⟨_, rfl⟩
   (try with_reducible replace H := (Option.bind_some _ _).symm.trans H); (try dsimp only at H); (try rw [← hy658] at H)
   have Ny658 := Aside0.mk hy658
   clear hy658
   replace H := Option.bind_eq_some_iff.mp H
   obtain ⟨⟨t661, t662, t663⟩, A80, H⟩ := H
   try dsimp only at H
   have A8 := Aside0.mk A80
   clear A80
   have H' := Aside0.mk H
   clear H
   go_wp2_with (first | ((with_reducible refine gate_dst (N := 11) rfl ?_); refine Kd.R_lit (Kd.int .i64) _ 3 ?hg (N := 11) ?hd (xs := ([0, 20, 21] : List Int)) (inner := [.int .i64 0, .int .i64 20, .int .i64 21]) (ok := fun _ => True) (okp := fun _ => True) ?hr ?hp (fun _ hk => hk) trivial (Below.refl _ _) (Nat.le_refl _) (by simp) ?_; (case hd => rfl); (case hg => rfl); (case hr => first | (go_simp; done) | (go_simp; rfl)); (case hp => exact (Reps.one (show Kd.M (Kd.int .i64) _ _ _ 0 [.int .i64 0] from rfl) (Reps.one (show Kd.M (Kd.int .i64) _ _ _ 20 [.int .i64 20] from rfl) (Reps.one (show Kd.M (Kd.int .i64) _ _ _ 21 [.int .i64 21] from rfl) (Reps.none _ _))))); intro v659 w9 ho10 hb hg_ hnew_; clear hg_ hnew_; (first | rw [← Ny658.out] at ho10 | (simp only [Int.reduceToNat] at ho10; rw [← Ny658.out] at ho10)); have HO660 := Aside0.mk (Kd.R_lower ho10 (keep_size (hk_ HK))); replace HK := hkb_ HK hb; replace HB := Aside0.mk (below_step (hbI_ HB (IsS106.ge HI0.out)) hb); replace HI0 := IsS106.b HI0 hb; clear hb ho10; obtain ⟨Ao11, co11, eo11⟩ := Kd.R_slice HO660.out; subst eo11) | ((with_reducible refine gate_callee (f := 89) rfl ?_); refine gl_ (some 12) Try.func89 #[.pointer (some ⟨g, 0, none⟩), .slice Ao11 y658.length co11] rfl rfl rfl ?_; (with_reducible refine (spec_l1Cur_among.calls g s0_0 t656 t657 _ _ y658 t661 t662 t663 w0 _ ?side1 ?side2 ?side3 ?side4 ?side5 A8.out).mono ?_); (case side1 => exact IsS106.q HI0); (case side2 => exact hbI_ HB (IsS106.ge HI0.out)); (case side3 => exact Kd.C_o HO660); (case side4 => exact (Kd.R_reads' HO660.out).2.1); (case side5 => exact far_slice (IsS106.own_ne HI0.out HO660.out (by decide))); rintro e w12 ⟨rfl, hi, hb, hk⟩; refine ⟨_, rfl, ?_⟩; replace HO660 := IsS106.rk HI0 HO660 hk; replace HK := Aside0.mk (KeepBut.trans (hk_ HK) hk (.inl rfl)); replace HB := Aside0.mk (hb); replace HI0 := Aside0.mk (hi)))
   go_meet
   case rel => exact ⟨_, (t661), (t662), (t663), (by first | rfl | (simp; done) | (simp [*]; done)), H', ⟨by first | omega | exact Nat.le_refl _⟩, ⟨by first | exact Kd.R_nil _ _ _ _ _ | exact Kd.N_nil _ _ _ _ _ | exact Kd.V_nil _ _ _ _ _ | exact Kd.Q_nil _ _ _ _ _ | exact Kd.S_nil _ _ _ _ _⟩, ⟨IsS106.q HI0⟩, ⟨hk_ HK⟩, ⟨hbI_ HB (IsS106.ge HI0.out)⟩⟩
  replace c7 := Bool.eq_false_iff.mpr c7
  subst c7
  rw [if_neg (show ¬ (false = true) by decide)] at H
  have H' := Aside0.mk H
  clear H
  go_wp2
  go_meet
  case rel => exact ⟨_, (wrap64 (1 + t652)), (t656), (t657), (by first | rfl | (simp; done) | (simp [*]; done)), H', ⟨by first | omega | exact Nat.le_refl _⟩, ⟨by first | exact Kd.R_nil _ _ _ _ _ | exact Kd.N_nil _ _ _ _ _ | exact Kd.V_nil _ _ _ _ _ | exact Kd.Q_nil _ _ _ _ _ | exact Kd.S_nil _ _ _ _ _⟩, ⟨IsS106.q HI0⟩, ⟨hk_ HK⟩, ⟨hbI_ HB (IsS106.ge HI0.out)⟩⟩
 clear HC4
 obtain ⟨kq, x4_3, x1001_3, x1002_3, rfl, HA, HJ3, HO_3, HI0, HK, HB⟩ := hcut
 cases kq with
 | zero => exact absurd HA.out (by simp [spec_l1Cur_pieces.j0])
 | succ kj3 => ?_
 have H := HA.out
 clear HA
 simp only [spec_l1Cur_pieces.j0] at H
 have H' := Aside0.mk H
 clear H
 go_wp2
 go_loopg [3] kj3 (fun kq v3 w' => ∃ (x3_2 : List (S29)) (x1001_2 : Int) (x1002_2 : Int), Aside0 (spec_l1Cur_pieces.l0 kq x3_2 x4_3 s0_0 x1001_2 x1002_2 = some (r1, r2, r3)) ∧ Aside0 (kq ≤ kj3) ∧ Aside0 (Kd.R k29 29 w' w.heap.size (fun _ => True) v3 x3_2) ∧ Aside0 (IsS106 w0 w' g s0_0 x1001_2 x1002_2) ∧ Aside0 (KeepBut w w' g none) ∧ Aside0 (Below w0.heap.size w0 w'))
 case atStart => exact ⟨(([] : List (S29))), (x1001_3), (x1002_3), H', ⟨Nat.le_refl _⟩, ⟨Kd.R_p HO_3⟩, ⟨IsS106.q HI0⟩, ⟨hk_ HK⟩, ⟨hbI_ HB (IsS106.ge HI0.out)⟩⟩
 clear H'
 obtain ⟨x3_2, x1001_2, x1002_2, HA, HK2, HO_3, HI0, HK, HB⟩ := hrel
 cases gk with
 | zero => exact absurd HA.out (by simp [spec_l1Cur_pieces.l0])
 | succ k2 => ?_
 have H := HA.out
 clear HA
 simp only [spec_l1Cur_pieces.l0] at H
 by_cases c13 : (x3_2.length : Int) < x4_3
 ·rw [if_pos c13] at H
  have c13b0 := decide_eq_true c13
  clear c13
  replace H := Option.bind_eq_some_iff.mp H
  obtain ⟨⟨t664, t665, t666, t667, t668⟩, A140, H⟩ := H
  try dsimp only at H
  have A14 := Aside0.mk A140
  clear A140
  by_cases c15 : x3_2.length < 5864062014805
  case neg => rw [if_neg c15] at H; exact absurd H (by simp)
  rw [if_pos c15] at H
  have LMc15 := Aside0.mk c15
  clear c15
  obtain ⟨y669, hy669⟩ : ∃ y_ : List (S29), y_ = (x3_2 ++ [(⟨t664, t665, t666⟩ : S29)]) := ⟨_, rfl⟩
  (try with_reducible replace H := (Option.bind_some _ _).symm.trans H); (try dsimp only at H); (try rw [← hy669] at H)
  have Ny669 := Aside0.mk hy669
  clear hy669
  have H' := Aside0.mk H
  clear H
  obtain ⟨Ao16, co16, eo16⟩ := Kd.R_slice HO_3.out
  subst eo16
  go_wp2_with (first | ((with_reducible refine gate_callee (f := 90) rfl ?_); refine gl_ (some 19) Try.func90 #[.pointer (some ⟨g, 0, none⟩)] rfl rfl rfl ?_; (with_reducible refine (spec_l1Cur_piece.calls k2 g s0_0 x1001_2 x1002_2 t664 t665 t666 t667 t668 w0 _ ?side1 ?side2 A14.out).mono ?_); (case side1 => exact IsS106.q HI0); (case side2 => exact hbI_ HB (IsS106.ge HI0.out)); rintro e w17 ⟨rfl, hi, hb, hk⟩; refine ⟨_, rfl, ?_⟩; replace HO_3 := IsS106.rk HI0 HO_3 hk; replace HK := Aside0.mk (KeepBut.trans (hk_ HK) hk (.inl rfl)); replace HB := Aside0.mk (hb); replace HI0 := Aside0.mk (hi)) | ((with_reducible refine gate_builtin (b := .append) (xs := #[.tmp 17, .tmp 20]) rfl ?_); at_builtin; refine Kd.R_append k29 w.heap.size rfl (.tmp 17) (.tmp 20) 42 29 (.agg #[(.int .i64 0), (.int .i64 0), (.int .i64 0)]) 24 rfl Try.underlying42 info29 rfl (by decide) (by omega) (.slice Ao16 x3_2.length co16) x3_2 (⟨t664, t665, t666⟩ : S29) [.int .i64 t664, .int .i64 t665, .int .i64 t666] (fun _ => True) (fun _ => False) rfl rfl ?aP (fun _ hk => hk.elim) ?aF ?aO (Below.refl _ _) ?aS ?aL ?_; (case aP => exact k29_mkM _ _ _ (⟨t664, t665, t666⟩ : S29)); (case aF => exact (fun _ _ => trivial)); (case aO => exact (Kd.R_p HO_3)); (case aS => exact (keep_size (hk_ HK))); (case aL => have := LMc15.out; omega); intro v670 w18 ho hb hg hat; rw [← Ny669.out] at ho; have HO671 := Aside0.mk (ho); replace HB := Aside0.mk (below_weaken (hbI_ HB (IsS106.ge HI0.out)) HL.out hb); replace HK := Aside0.mk (KeepBut.trans (hk_ HK) (KeepBut.of_grown hg g) (Kd.R_base2 HO_3.out)); replace HI0 := Aside0.mk (IsS106.grown (IsS106.q HI0) hg (IsS106.own_ne HI0.out HO_3.out (by decide))); clear HO_3; clear ho hb hg hat))
  go_roundg k2
  case measure => have := HJ3.out; have := HK2.out; omega
  case rel => exact ⟨(y669), (t667), (t668), H', ⟨by have := HJ3.out; have := HK2.out; omega⟩, ⟨Kd.R_p HO671⟩, ⟨IsS106.q HI0⟩, ⟨hk_ HK⟩, ⟨hbI_ HB (IsS106.ge HI0.out)⟩⟩
 rw [if_neg c13] at H
 have c13b0 := decide_eq_false c13
 clear c13
 simp only [Option.some.injEq, Prod.mk.injEq] at H
 obtain ⟨rfl, rfl, rfl⟩ := H
 obtain ⟨Ao19, co19, eo19⟩ := Kd.R_slice HO_3.out
 subst eo19
 go_wp2
 go_ret
 exact ⟨_, by first | rfl | (simp [errW_none, errW_some] <;> rfl) | (simp [*, errW_none, errW_some] <;> rfl), Kd.R_p HO_3, IsS106.q HI0, hbI_ HB (IsS106.ge HI0.out), hk_ HK⟩

/-! ### spec_DrawBestPieces: function 51 -/
def spec_DrawBestPieces.l0 : Nat → List (S29) → Int → List (S29) → Int → Int → List Int → Int → Int → Option ((List (S29)) × Int)
 | 0, _, _, _, _, _, _, _, _ => none
 | k + 1, x5, x6, x14, x15, x16, x673000, x673001, x673002 => if x16 < x15 then (if 0 ≤ x16 then (if x16 < (x14.length : Int) then (spec_DrawBestPieces.l0 k x5 (wrap64 (x6 + ((rd_T29 x14 x16).f0))) x14 x15 (wrap64 (x16 + 1)) x673000 x673001 x673002) else (none)) else (none)) else ((spec_l1Cur_among.f x673000 x673001 x673002 (([0, 1, 100, 3000, x6, wrap64 (x6 + 1), wrap64 (Int.tdiv x6 2), 200000, 200001, (-1)] : List Int))).bind fun bt683 => (some (x5, bt683.1)))
def spec_DrawBestPieces.f (k : Nat) (l0 : List Int) : Option ((List (S29)) × Int) := (spec_l1Cur_pieces.f k l0 0 0).bind fun bt673 => (spec_DrawBestPieces.l0 k bt673.1 0 bt673.1 (bt673.1.length : Int) 0 l0 bt673.2.1 bt673.2.2)
set_option maxHeartbeats 8000000 in
set_option maxRecDepth 100000 in
theorem spec_DrawBestPieces.calls (k : Nat) (A0 : Option Addr) (c0 : Nat) (l0 : List Int) (r1 : List (S29)) (r2 : Int) (w : World) (hr0 : Kd.C (Kd.int .u8) w A0 l0.length l0) (hc0 : l0.length ≤ c0) (h : spec_DrawBestPieces.f k l0 = some (r1, r2)) :
  Calls Try.prog 51 #[.slice A0 l0.length c0] w fun e w' => ∃ v0_ : Value, e = .returned (.tuple #[v0_, .int .i64 r2]) ∧ Kd.R k29 29 w' w.heap.size (fun _ => True) v0_ r1 ∧ Below w.heap.size w w' := by
 have hu106 := Try.underlying106
 have hu29 := Try.underlying29
 have HR0 := Aside0.mk hr0
 have HC0 := Aside0.mk hc0
 clear hr0 hc0
 have HB := Aside0.mk (Below.refl w.heap.size w)
 have H := h
 unfold spec_DrawBestPieces.f at H
 clear h
 replace H := Option.bind_eq_some_iff.mp H
 obtain ⟨⟨t673, t676, t677⟩, A20, H⟩ := H
 try dsimp only at H
 have A2 := Aside0.mk A20
 clear A20
 have H' := Aside0.mk H
 clear H
 go_enter Try.func51, Try.ntmps51
 go_wp2_with (first | ((with_reducible refine gate_dst (N := 11) rfl ?_); refine bv_ 11 (cs := #[.slice A0 l0.length c0, .int .i64 0, .int .u64 0]) (t := 106) ?_; intro gb672 hg w3 hbox hb; have HI672 := Aside0.mk ((show IsS106 w w3 gb672 l0 0 0 from ⟨A0, c0, hbox, (by rw [hg]; exact (below_size (hb_ HB))), HR0.out⟩)); have GW672 := gs_ hg HB; have GE672 := gs_ hg HB; replace HB := hbs_ HB hb; clear hb hbox hg) | ((with_reducible refine gate_callee (f := 96) rfl ?_); refine gl_ (some 13) Try.func96 #[.pointer (some ⟨gb672, 0, none⟩)] rfl rfl rfl ?_; (with_reducible refine (spec_l1Cur_pieces.calls k gb672 l0 0 0 t673 t676 t677 w _ ?side1 ?side2 A2.out).mono ?_); (case side1 => exact IsS106.q HI672); (case side2 => exact hbI_ HB (IsS106.ge HI672.out)); rintro e w4 ⟨v674, rfl, ho0, hi, hb, hk⟩; refine ⟨_, rfl, ?_⟩; have HO675 := Aside0.mk (Kd.R_lower ho0 (below_size (hbI_ HB (IsS106.ge HI672.out)))); replace HB := Aside0.mk (hb); replace HI672 := Aside0.mk (hi); obtain ⟨Ao5, co5, eo5⟩ := Kd.R_slice HO675.out; subst eo5))
 go_loopg [6, 16] k (fun kq v6 v16 w' => ∃ (x6_1 : Int) (x16_1 : Int), v6 = .int .i64 x6_1 ∧ v16 = .int .i64 x16_1 ∧ Aside0 (spec_DrawBestPieces.l0 kq t673 x6_1 t673 (t673.length : Int) x16_1 l0 t676 t677 = some (r1, r2)) ∧ Aside0 (kq ≤ k) ∧ Aside0 (Kd.R k29 29 w' w.heap.size (fun _ => True) (.slice Ao5 t673.length co5) t673) ∧ Aside0 (Kd.R k29 29 w' w.heap.size (fun _ => True) (.slice Ao5 t673.length co5) t673) ∧ Aside0 (IsS106 w w' gb672 l0 t676 t677) ∧ Aside0 (Below w.heap.size w w'))
 case atStart => exact ⟨(0), (0), (by first | rfl | (simp; done) | (simp [*]; done)), (by first | rfl | (simp; done) | (simp [*]; done)), H', ⟨Nat.le_refl _⟩, ⟨Kd.R_p HO675⟩, ⟨Kd.R_p HO675⟩, ⟨IsS106.q HI672⟩, ⟨hbI_ HB (IsS106.ge HI672.out)⟩⟩
 clear H'
 obtain ⟨x6_1, x16_1, rfl, rfl, HA, HK1, HO_5, HO_14, HI672, HB⟩ := hrel
 cases gk with
 | zero => exact absurd HA.out (by simp [spec_DrawBestPieces.l0])
 | succ k1 => ?_
 have H := HA.out
 clear HA
 simp only [spec_DrawBestPieces.l0] at H
 by_cases c6 : x16_1 < (t673.length : Int)
 ·rw [if_pos c6] at H
  have c6b0 := decide_eq_true c6
  clear c6
  by_cases c7 : 0 ≤ x16_1
  case neg => rw [if_neg c7] at H; exact absurd H (by simp)
  rw [if_pos c7] at H
  have c7b0 := decide_eq_true c7
  clear c7
  by_cases c8 : x16_1 < (t673.length : Int)
  case neg => rw [if_neg c8] at H; exact absurd H (by simp)
  rw [if_pos c8] at H
  have c8b0 := decide_eq_true c8
  clear c8
  have H' := Aside0.mk H
  clear H
  have p678 : 0 ≤ (x16_1 : Int) := of_decide_eq_true (by first | (with_reducible assumption) | assumption)
  have q678 : x16_1 < (t673.length : Int) := of_decide_eq_true (by first | (with_reducible assumption) | assumption)
  obtain ⟨ad678, e678, hx678_0, hx678_1, hx678_2⟩ := at_T29 (Kd.R_reads' HO_14.out).2.2 x16_1 p678 q678
  cases e678
  replace p678 := eq_true p678
  replace q678 := eq_true q678
  go_wp2_with (first | ((with_reducible refine gate_dst (N := 8) rfl ?_); refine bv_ 8 (cs := #[.int .i64 0, .int .i64 0, .int .i64 0]) (t := 29) ?_; intro gb679 hg w9 hbox hb; have BK679 := Aside0.mk (hbox); have GW679 := Aside0.mk ((by rw [hg]; exact (below_size (hbI_ HB (IsS106.ge HI672.out))) : w.heap.size ≤ gb679)); have GE679 := Aside0.mk ((by rw [hg]; exact (below_size (hbI_ HB (IsS106.ge HI672.out))) : w.heap.size ≤ gb679)); have NB672_679 := Aside0.mk ((by rw [hg]; exact Nat.ne_of_lt (IsS106.lt (show IsS106 w _ gb672 l0 t676 t677 from IsS106.q HI672)) : gb672 ≠ gb679)); have NB679_672 := Aside0.mk ((by rw [hg]; exact Nat.ne_of_gt (IsS106.lt (show IsS106 w _ gb672 l0 t676 t677 from IsS106.q HI672)) : gb679 ≠ gb672)); replace HO_5 := Aside0.mk (Kd.R_below (Kd.R_elderB (Kd.R_p HO_5) gb679 (Nat.le_of_eq hg.symm)) hb); replace HO_14 := Aside0.mk (Kd.R_below (Kd.R_elderB (Kd.R_p HO_14) gb679 (Nat.le_of_eq hg.symm)) hb); replace HB := Aside0.mk (below_step (hbI_ HB (IsS106.ge HI672.out)) hb); replace HI672 := IsS106.b HI672 hb; clear hb hbox hg; have := NB679_672.out; have := NB672_679.out; obtain ⟨hcz11_0, hcz11_1, hcz11_2, hfz11_0, hfz11_1, hfz11_2⟩ := bx3 BK679))
  go_roundg k1
  case measure => have := HK1.out; omega
  case rel => exact ⟨(wrap64 (x6_1 + ((rd_T29 t673 x16_1).f0))), (wrap64 (x16_1 + 1)), (by first | rfl | (simp; done) | (simp [*]; done)), (by first | rfl | (simp; done) | (simp [*]; done)), H', ⟨by have := HK1.out; omega⟩, ⟨rm_ (h := rf_ (rf_ (rf_ HO_5.out)))⟩, ⟨rm_ (h := rf_ (rf_ (rf_ HO_14.out)))⟩, ⟨IsS106.q HI672⟩, ⟨hbI_ HB (IsS106.ge HI672.out)⟩⟩
 rw [if_neg c6] at H
 have c6b0 := decide_eq_false c6
 clear c6
 obtain ⟨y680, hy680⟩ : ∃ y_ : List Int, y_ = (([0, 1, 100, 3000, x6_1, wrap64 (x6_1 + 1), wrap64 (Int.tdiv x6_1 2), 200000, 200001, (-1)] : List Int)) := ⟨_, rfl⟩
 (try with_reducible replace H := (Option.bind_some _ _).symm.trans H); (try dsimp only at H); (try rw [← hy680] at H)
 have Ny680 := Aside0.mk hy680
 clear hy680
 replace H := Option.bind_eq_some_iff.mp H
 obtain ⟨⟨t683, t684, t685⟩, A120, H⟩ := H
 try dsimp only at H
 have A12 := Aside0.mk A120
 clear A120
 simp only [Option.some.injEq, Prod.mk.injEq] at H
 obtain ⟨rfl, rfl⟩ := H
 go_wp2_with (first | ((with_reducible refine gate_dst (N := 32) rfl ?_); refine Kd.R_lit (Kd.int .i64) _ 3 ?hg (N := 32) ?hd (xs := ([0, 1, 100, 3000, x6_1, wrap64 (x6_1 + 1), wrap64 (Int.tdiv x6_1 2), 200000, 200001, (-1)] : List Int)) (inner := [.int .i64 0, .int .i64 1, .int .i64 100, .int .i64 3000, .int .i64 x6_1, .int .i64 (wrap64 (x6_1 + 1)), .int .i64 (wrap64 (Int.tdiv x6_1 2)), .int .i64 200000, .int .i64 200001, .int .i64 (-1)]) (ok := fun _ => True) (okp := fun _ => True) ?hr ?hp (fun _ hk => hk) trivial (Below.refl _ _) (Nat.le_refl _) (by simp) ?_; (case hd => rfl); (case hg => rfl); (case hr => first | (go_simp; done) | (go_simp; rfl)); (case hp => exact (Reps.one (show Kd.M (Kd.int .i64) _ _ _ 0 [.int .i64 0] from rfl) (Reps.one (show Kd.M (Kd.int .i64) _ _ _ 1 [.int .i64 1] from rfl) (Reps.one (show Kd.M (Kd.int .i64) _ _ _ 100 [.int .i64 100] from rfl) (Reps.one (show Kd.M (Kd.int .i64) _ _ _ 3000 [.int .i64 3000] from rfl) (Reps.one (show Kd.M (Kd.int .i64) _ _ _ x6_1 [.int .i64 x6_1] from rfl) (Reps.one (show Kd.M (Kd.int .i64) _ _ _ (wrap64 (x6_1 + 1)) [.int .i64 (wrap64 (x6_1 + 1))] from rfl) (Reps.one (show Kd.M (Kd.int .i64) _ _ _ (wrap64 (Int.tdiv x6_1 2)) [.int .i64 (wrap64 (Int.tdiv x6_1 2))] from rfl) (Reps.one (show Kd.M (Kd.int .i64) _ _ _ 200000 [.int .i64 200000] from rfl) (Reps.one (show Kd.M (Kd.int .i64) _ _ _ 200001 [.int .i64 200001] from rfl) (Reps.one (show Kd.M (Kd.int .i64) _ _ _ (-1) [.int .i64 (-1)] from rfl) (Reps.none _ _)))))))))))); intro v681 w13 ho14 hb hg_ hnew_; clear hg_ hnew_; (first | rw [← Ny680.out] at ho14 | (simp only [Int.reduceToNat] at ho14; rw [← Ny680.out] at ho14)); have HO682 := Aside0.mk (Kd.R_lower ho14 (below_size (hbI_ HB (IsS106.ge HI672.out)))); replace HO_5 := Kd.R_b HO_5 hb; replace HO_14 := Kd.R_b HO_14 hb; replace HB := Aside0.mk (below_step (hbI_ HB (IsS106.ge HI672.out)) hb); replace HI672 := IsS106.b HI672 hb; clear hb ho14; obtain ⟨Ao15, co15, eo15⟩ := Kd.R_slice HO682.out; subst eo15) | ((with_reducible refine gate_callee (f := 89) rfl ?_); refine gl_ (some 33) Try.func89 #[.pointer (some ⟨gb672, 0, none⟩), .slice Ao15 y680.length co15] rfl rfl rfl ?_; (with_reducible refine (spec_l1Cur_among.calls gb672 l0 t676 t677 _ _ y680 t683 t684 t685 w _ ?side1 ?side2 ?side3 ?side4 ?side5 A12.out).mono ?_); (case side1 => exact IsS106.q HI672); (case side2 => exact hbI_ HB (IsS106.ge HI672.out)); (case side3 => exact Kd.C_o HO682); (case side4 => exact (Kd.R_reads' HO682.out).2.1); (case side5 => exact far_slice (IsS106.own_ne HI672.out HO682.out (by decide))); rintro e w16 ⟨rfl, hi, hb, hk⟩; refine ⟨_, rfl, ?_⟩; replace HO_5 := IsS106.rk HI672 HO_5 hk; replace HO_14 := IsS106.rk HI672 HO_14 hk; replace HO682 := IsS106.rk HI672 HO682 hk; replace HB := Aside0.mk (hb); replace HI672 := Aside0.mk (hi)))
 go_ret2
 exact ⟨_, by first | rfl | (simp [errW_none, errW_some] <;> rfl) | (simp [*, errW_none, errW_some] <;> rfl), Kd.R_p HO_5, hbI_ HB (IsS106.ge HI672.out)⟩

/-! ### spec_DrawCoarseBlock: function 52 -/
def spec_DrawCoarseBlock.f (k : Nat) (l0 : List Int) : Option (Int × Int × Int × Int) := (spec_l1Cur_anyGrid.f k l0 0 0).bind fun bt688 => ((spec_grGood.f bt688.1 bt688.2.1 bt688.2.2.1).bind fun t694 => (if t694 = true then ((spec_grCount.f bt688.1 bt688.2.1 bt688.2.2.1).bind fun t695 => ((spec_l1Cur_pick.f l0 bt688.2.2.2.1 bt688.2.2.2.2 (wrap64 (t695 + 1))).bind fun bt696 => ((spec_l1Cur_pick.f l0 bt696.2.1 bt696.2.2 20).bind fun bt699 => (some (bt688.1, bt688.2.1, bt688.2.2.1, wrap64 (bt696.1 - (wrap64 (Int.tdiv bt699.1 19)))))))) else (some (bt688.1, bt688.2.1, bt688.2.2.1, 0))))
def spec_DrawCoarseBlock.T5 : Bool × List (List Nat × List Nat) := (true, [([], []), ([], []), ([], []), ([2], [2]), ([3], [3]), ([1, 4, 3], [1, 4]), ([], []), ([6, 5], [6]), ([7], [7]), ([5, 8], [5, 8]), ([0, 7, 0], [0]), ([9, 10, 0, 1, 2, 3, 4, 5, 6, 7, 8, 9, 10], [9])])
def spec_DrawCoarseBlock.B5 : List Nat := [0, 0, 0, 4, 12, 30, 0, 126, 254, 510, 255, 2047]
theorem spec_DrawCoarseBlock.tab5 : rtab .any (opsOf Try.f52 5) = spec_DrawCoarseBlock.T5 := by kernel_rfl
theorem spec_DrawCoarseBlock.bits5 : waitsOk spec_DrawCoarseBlock.T5.2 spec_DrawCoarseBlock.B5 = true := by kernel_rfl
set_option maxHeartbeats 8000000 in
set_option maxRecDepth 100000 in
theorem spec_DrawCoarseBlock.calls (k : Nat) (A0 : Option Addr) (c0 : Nat) (l0 : List Int) (r1 : Int) (r2 : Int) (r3 : Int) (r4 : Int) (w : World) (hr0 : Kd.C (Kd.int .u8) w A0 l0.length l0) (hc0 : l0.length ≤ c0) (h : spec_DrawCoarseBlock.f k l0 = some (r1, r2, r3, r4)) :
  Calls Try.prog 52 #[.slice A0 l0.length c0] w fun e w' => e = .returned (.tuple #[.agg #[.int .i64 r1, .int .i64 r2, .int .i64 r3], .int .i64 r4]) ∧ Below w.heap.size w w' := by
 have hu32 := Try.underlying32
 have hu106 := Try.underlying106
 have HR0 := Aside0.mk hr0
 have HC0 := Aside0.mk hc0
 clear hr0 hc0
 have HB := Aside0.mk (Below.refl w.heap.size w)
 have H := h
 unfold spec_DrawCoarseBlock.f at H
 clear h
 replace H := Option.bind_eq_some_iff.mp H
 obtain ⟨⟨t688, t689, t690, t691, t692⟩, A20, H⟩ := H
 try dsimp only at H
 have A2 := Aside0.mk A20
 clear A20
 replace H := Option.bind_eq_some_iff.mp H
 obtain ⟨t694, A30, H⟩ := H
 try dsimp only at H
 have A3 := Aside0.mk A30
 clear A30
 by_cases c4 : t694 = true
 ·subst c4
  rw [if_pos rfl] at H
  replace H := Option.bind_eq_some_iff.mp H
  obtain ⟨t695, A50, H⟩ := H
  try dsimp only at H
  have A5 := Aside0.mk A50
  clear A50
  replace H := Option.bind_eq_some_iff.mp H
  obtain ⟨⟨t696, t697, t698⟩, A60, H⟩ := H
  try dsimp only at H
  have A6 := Aside0.mk A60
  clear A60
  replace H := Option.bind_eq_some_iff.mp H
  obtain ⟨⟨t699, t700, t701⟩, A70, H⟩ := H
  try dsimp only at H
  have A7 := Aside0.mk A70
  clear A70
  simp only [Option.some.injEq, Prod.mk.injEq] at H
  obtain ⟨rfl, rfl, rfl, rfl⟩ := H
  go_enter Try.func52, Try.ntmps52
  try go_wp2_with (first | ((with_reducible refine gate_dst (N := 2) rfl ?_); refine bv_ 2 (cs := #[.int .i64 0, .int .i64 0, .int .i64 0]) (t := 32) ?_; intro gb686 hg w8 hbox hb; have BK686 := Aside0.mk (hbox); have GW686 := gs_ hg HB; have GE686 := gs_ hg HB; replace HB := hbs_ HB hb; clear hb hbox hg) | ((with_reducible refine gate_dst (N := 8) rfl ?_); refine bv_ 8 (cs := #[.slice A0 l0.length c0, .int .i64 0, .int .u64 0]) (t := 106) ?_; intro gb687 hg w9 hbox hb; have HI687 := Aside0.mk ((show IsS106 w w9 gb687 l0 0 0 from ⟨A0, c0, hbox, (by rw [hg]; exact (below_size (hb_ HB))), HR0.out⟩)); have GW687 := gs_ hg HB; have GE687 := gs_ hg HB; have NB686_687 := nl_ hg BK686; have NB687_686 := ng_ hg BK686; replace BK686 := kb_ BK686 hb; replace HB := hbs_ HB hb; clear hb hbox hg) | ((with_reducible refine gate_callee (f := 97) rfl ?_); refine gl_ (some 10) Try.func97 #[.pointer (some ⟨gb687, 0, none⟩)] rfl rfl rfl ?_; (with_reducible refine (spec_l1Cur_anyGrid.calls k gb687 l0 0 0 t688 t689 t690 t691 t692 w _ ?side1 ?side2 A2.out).mono ?_); (case side1 => exact IsS106.q HI687); (case side2 => exact hbI_ HB (IsS106.ge HI687.out)); rintro e w10 ⟨rfl, hi, hb, hk⟩; refine ⟨_, rfl, ?_⟩; replace BK686 := kk_ BK686 hk NB686_687; replace HB := Aside0.mk (hb); replace HI687 := Aside0.mk (hi)) | ((with_reducible refine gate_dst (N := 5) rfl ?_); refine bv_ 5 (cs := #[.int .i64 0, .int .i64 0, .int .i64 0]) (t := 32) ?_; intro gb693 hg w11 hbox hb; have BK693 := Aside0.mk (hbox); have GW693 := Aside0.mk ((by rw [hg]; exact (below_size (hbI_ HB (IsS106.ge HI687.out))) : w.heap.size ≤ gb693)); have GE693 := Aside0.mk ((by rw [hg]; exact (below_size (hbI_ HB (IsS106.ge HI687.out))) : w.heap.size ≤ gb693)); have NB686_693 := nl_ hg BK686; have NB693_686 := ng_ hg BK686; have NB687_693 := Aside0.mk ((by rw [hg]; exact Nat.ne_of_lt (IsS106.lt (show IsS106 w _ gb687 l0 t691 t692 from IsS106.q HI687)) : gb687 ≠ gb693)); have NB693_687 := Aside0.mk ((by rw [hg]; exact Nat.ne_of_gt (IsS106.lt (show IsS106 w _ gb687 l0 t691 t692 from IsS106.q HI687)) : gb693 ≠ gb687)); replace BK686 := kb_ BK686 hb; replace HB := Aside0.mk (below_step (hbI_ HB (IsS106.ge HI687.out)) hb); replace HI687 := IsS106.b HI687 hb; clear hb hbox hg; have := NB693_686.out; have := NB686_693.out; have := NB693_687.out; have := NB687_693.out; obtain ⟨hcz14_0, hcz14_1, hcz14_2, hfz14_0, hfz14_1, hfz14_2⟩ := bx3 BK693) | ((with_reducible refine gate_callee (f := 98) rfl ?_); refine gl_ (some 12) Try.func98 #[.agg #[.int .i64 t688, .int .i64 t689, .int .i64 t690]] rfl rfl rfl ?_; (with_reducible refine (spec_grGood.calls t688 t689 t690 true _ A3.out).mono ?_); rintro e w15 ⟨rfl, hb⟩; refine ⟨_, rfl, ?_⟩; replace BK686 := kfb_ BK686 NB686_693 hb; replace BK693 := Aside0.mk (blk_below (g := gb693) (o := .cells #[.int .i64 t688, .int .i64 t689, .int .i64 t690] 32 (0, 0)) (kpq_ (kputs BK693 [(0, _), (1, _), (2, _)])) hb); replace HB := Aside0.mk (below_step (hbI_ HB (IsS106.ge HI687.out)) hb); replace HI687 := Aside0.mk (IsS106.below (show IsS106 w (((w11.setCell ⟨gb693, 0, none⟩ (.int .i64 t688)).setCell ⟨gb693, 1, none⟩ (.int .i64 t689)).setCell ⟨gb693, 2, none⟩ (.int .i64 t690)) gb687 l0 t691 t692 from IsS106.q HI687) hb)))
  replace BK686 := Aside0.mk (blk_drew BK686.out)
  replace BK693 := Aside0.mk (blk_drew BK693.out)
  replace HI687 := Aside0.mk (IsS106.drew HI687.out)
  replace HB := Aside0.mk (below_drew1 HB.out)
  refine start_ (n := 12) (S := fun w' => w'.cell? ⟨gb693, 0, none⟩ = some (.int .i64 t688) ∧ w'.cell? ⟨gb693, 1, none⟩ = some (.int .i64 t689) ∧ w'.cell? ⟨gb693, 2, none⟩ = some (.int .i64 t690)) (ds := []) (bb 12 0) (by kernel_rfl) rfl rfl ⟨(blk_cell BK693.out 0).trans rfl, (blk_cell BK693.out 1).trans rfl, (blk_cell BK693.out 2).trans rfl⟩ (fun hHeld => ?_); refine with_tabW spec_DrawCoarseBlock.tab5 spec_DrawCoarseBlock.bits5 (fun HT_ HW_ => ?_)
  generalize w15.drew = w16 at BK686 BK693 HI687 HB hHeld ⊢
  refine pl_ HT_ 1 (some 16) (bb 12 2) (h := ?_)
  refine pl_ HT_ 6 (some 21) (bb 12 66) (h := ?_)
  refine tk_ HT_ HW_ hHeld 0 (some 15) (bb 12 67) (h := ?_)
  refine tk_ HT_ HW_ hHeld 2 (some 17) (bb 12 71) (h := ?_)
  refine one_ (i := 3) (N := some 18) (bb 12 79) rfl rfl (one_of HT_.out (by kernel_rfl)) (by decide) (fun K hK => ?_)
  refine goes_ Try.func79 (by kernel_rfl) rfl #[.agg #[.int .i64 t688, .int .i64 t689, .int .i64 t690]] (by rfl) rfl rfl (by (try simp only [List.map_toArray, List.map_cons, List.map_nil]); first | done | rfl | (simp only [List.length_drop, List.length_take]; rfl)) ?_
  with_reducible refine (spec_grCount.calls t688 t689 t690 t695 _ A5.out).mono ?_
  rintro e w17 ⟨rfl, hb⟩
  refine ⟨_, rfl, ?_⟩
  have n0_ := Aside0.mk (blk_below (kp_ BK686) hb)
  have n1_ := Aside0.mk (IsS106.below (IsS106.q HI687) hb)
  have n2_ := Aside0.mk (blk_below (kp_ BK693) hb)
  have n3_ := Aside0.mk (below_step (hbI_ HB (IsS106.ge HI687.out)) hb)
  clear BK686
  clear HI687
  clear BK693
  clear HB
  have BK686 := n0_
  have HI687 := n1_
  have BK693 := n2_
  have HB := n3_
  clear n0_ n1_ n2_ n3_
  refine hK.out _ _ ⟨(blk_cell BK693.out 0).trans rfl, (blk_cell BK693.out 1).trans rfl, (blk_cell BK693.out 2).trans rfl⟩ (fun hHeld => ?_)
  clear hK K
  refine nm_ (some 18) (h := ?_)
  refine pl_ HT_ 4 (some 19) (bb 12 95) (h := ?_)
  refine one_ (i := 5) (N := some 20) (bb 12 127) rfl rfl (one_of HT_.out (by kernel_rfl)) (by decide) (fun K hK => ?_)
  refine goes_ Try.func87 (by kernel_rfl) rfl #[.pointer (some ⟨gb687, 0, none⟩), .int .i64 (wrap64 (t695 + 1))] (by rfl) rfl rfl (by (try simp only [List.map_toArray, List.map_cons, List.map_nil]); first | done | rfl | (simp only [List.length_drop, List.length_take]; rfl)) ?_
  with_reducible refine (spec_l1Cur_pick.calls gb687 l0 t691 t692 (wrap64 (t695 + 1)) t696 t697 t698 w _ ?side1 ?side2 A6.out).mono ?_
  (case side1 => exact IsS106.q HI687)
  (case side2 => exact hbI_ HB (IsS106.ge HI687.out))
  rintro e w18 ⟨rfl, hi, hb, hk⟩
  refine ⟨_, rfl, ?_⟩
  replace BK686 := Aside0.mk (KeepBut.blk hk (kp_ BK686) NB686_687.out (by simp))
  replace BK693 := Aside0.mk (KeepBut.blk hk (kp_ BK693) NB693_687.out (by simp))
  replace HB := Aside0.mk (hb)
  replace HI687 := Aside0.mk (hi)
  refine hK.out _ _ ⟨(blk_cell BK693.out 0).trans rfl, (blk_cell BK693.out 1).trans rfl, (blk_cell BK693.out 2).trans rfl⟩ (fun hHeld => ?_)
  clear hK K
  refine nm_ (some 20) (h := ?_)
  refine one_ (i := 7) (N := some 22) (bb 12 255) rfl rfl (one_of HT_.out (by kernel_rfl)) (by decide) (fun K hK => ?_)
  refine goes_ Try.func87 (by kernel_rfl) rfl #[.pointer (some ⟨gb687, 0, none⟩), .int .i64 20] (by rfl) rfl rfl (by (try simp only [List.map_toArray, List.map_cons, List.map_nil]); first | done | rfl | (simp only [List.length_drop, List.length_take]; rfl)) ?_
  with_reducible refine (spec_l1Cur_pick.calls gb687 l0 t697 t698 20 t699 t700 t701 w _ ?side1 ?side2 A7.out).mono ?_
  (case side1 => exact IsS106.q HI687)
  (case side2 => exact hbI_ HB (IsS106.ge HI687.out))
  rintro e w19 ⟨rfl, hi, hb, hk⟩
  refine ⟨_, rfl, ?_⟩
  replace BK686 := Aside0.mk (KeepBut.blk hk (kp_ BK686) NB686_687.out (by simp))
  replace BK693 := Aside0.mk (KeepBut.blk hk (kp_ BK693) NB693_687.out (by simp))
  replace HB := Aside0.mk (hb)
  replace HI687 := Aside0.mk (hi)
  refine hK.out _ _ ⟨(blk_cell BK693.out 0).trans rfl, (blk_cell BK693.out 1).trans rfl, (blk_cell BK693.out 2).trans rfl⟩ (fun hHeld => ?_)
  clear hK K
  refine nm_ (some 22) (h := ?_)
  refine pl_ HT_ 8 (some 23) (bb 12 511) (h := ?_)
  refine pl_ HT_ 9 (some 24) (bb 12 1023) (h := ?_)
  refine one_ (i := 10) (N := none) (bb 12 2047) rfl rfl (one_of HT_.out (by kernel_rfl)) (by decide) (fun K hK => ?_)
  have hs20 : w19.cell? ⟨gb686, 0, none⟩ = some (.int .i64 0) := (blk_cell BK686.out 0).trans rfl
  have hfs20 := blk_frozen BK686.out 0
  have hns20_1 := NB693_686.out
  have hms20_1 := NB686_693.out
  have hs21 : w19.cell? ⟨gb686, 1, none⟩ = some (.int .i64 0) := (blk_cell BK686.out 1).trans rfl
  have hfs21 := blk_frozen BK686.out 1
  have hns21_1 := NB693_686.out
  have hms21_1 := NB686_693.out
  have hs22 : w19.cell? ⟨gb686, 2, none⟩ = some (.int .i64 0) := (blk_cell BK686.out 2).trans rfl
  have hfs22 := blk_frozen BK686.out 2
  have hns22_1 := NB693_686.out
  have hms22_1 := NB686_693.out
  refine skip_ (w1 := ?_) (by rfl) rfl ?_ ?_
  rotate_left
  ·go_simp
   rfl
  refine hK.out _ _ ⟨((cell_far (p := ⟨gb686, _, none⟩) NB693_686.out _).trans (((cell_far (p := ⟨gb686, _, none⟩) NB693_686.out _).trans (((cell_far (p := ⟨gb686, _, none⟩) NB693_686.out _).trans (hHeld.1)))))), ((cell_far (p := ⟨gb686, _, none⟩) NB693_686.out _).trans (((cell_far (p := ⟨gb686, _, none⟩) NB693_686.out _).trans (((cell_far (p := ⟨gb686, _, none⟩) NB693_686.out _).trans (hHeld.2.1)))))), ((cell_far (p := ⟨gb686, _, none⟩) NB693_686.out _).trans (((cell_far (p := ⟨gb686, _, none⟩) NB693_686.out _).trans (((cell_far (p := ⟨gb686, _, none⟩) NB693_686.out _).trans (hHeld.2.2))))))⟩ (fun hHeld => ?_)
  clear hK K
  refine pl_ HT_ 11 (some 3) (bb 12 4095) (h := ?_)
  refine done_ (done_of HT_.out (by kernel_rfl)) ?_
  try go_wp2
  refine bodyPost_ret (results_ct rfl _ _ gb686 32 #[.int .i64 t688, .int .i64 t689, .int .i64 t690] (0, 0) _ rfl (kpq_ (kputs BK686 [(0, _), (1, _), (2, _)])) Try.underlying32 rfl (by kernel_rfl)) rfl ?_
  exact ⟨by first | rfl | (simp [errW_none, errW_some] <;> rfl) | (simp [*, errW_none, errW_some] <;> rfl), hbI_ HB (IsS106.ge HI687.out)⟩
 replace c4 := Bool.eq_false_iff.mpr c4
 subst c4
 rw [if_neg (show ¬ (false = true) by decide)] at H
 simp only [Option.some.injEq, Prod.mk.injEq] at H
 obtain ⟨rfl, rfl, rfl, rfl⟩ := H
 go_enter Try.func52, Try.ntmps52
 go_wp2_with (first | ((with_reducible refine gate_dst (N := 2) rfl ?_); refine bv_ 2 (cs := #[.int .i64 0, .int .i64 0, .int .i64 0]) (t := 32) ?_; intro gb686 hg w23 hbox hb; have BK686 := Aside0.mk (hbox); have GW686 := gs_ hg HB; have GE686 := gs_ hg HB; replace HB := hbs_ HB hb; clear hb hbox hg) | ((with_reducible refine gate_dst (N := 8) rfl ?_); refine bv_ 8 (cs := #[.slice A0 l0.length c0, .int .i64 0, .int .u64 0]) (t := 106) ?_; intro gb687 hg w24 hbox hb; have HI687 := Aside0.mk ((show IsS106 w w24 gb687 l0 0 0 from ⟨A0, c0, hbox, (by rw [hg]; exact (below_size (hb_ HB))), HR0.out⟩)); have GW687 := gs_ hg HB; have GE687 := gs_ hg HB; have NB686_687 := nl_ hg BK686; have NB687_686 := ng_ hg BK686; replace BK686 := kb_ BK686 hb; replace HB := hbs_ HB hb; clear hb hbox hg) | ((with_reducible refine gate_callee (f := 97) rfl ?_); refine gl_ (some 10) Try.func97 #[.pointer (some ⟨gb687, 0, none⟩)] rfl rfl rfl ?_; (with_reducible refine (spec_l1Cur_anyGrid.calls k gb687 l0 0 0 t688 t689 t690 t691 t692 w _ ?side1 ?side2 A2.out).mono ?_); (case side1 => exact IsS106.q HI687); (case side2 => exact hbI_ HB (IsS106.ge HI687.out)); rintro e w25 ⟨rfl, hi, hb, hk⟩; refine ⟨_, rfl, ?_⟩; replace BK686 := kk_ BK686 hk NB686_687; replace HB := Aside0.mk (hb); replace HI687 := Aside0.mk (hi)) | ((with_reducible refine gate_dst (N := 5) rfl ?_); refine bv_ 5 (cs := #[.int .i64 0, .int .i64 0, .int .i64 0]) (t := 32) ?_; intro gb693 hg w26 hbox hb; have BK693 := Aside0.mk (hbox); have GW693 := Aside0.mk ((by rw [hg]; exact (below_size (hbI_ HB (IsS106.ge HI687.out))) : w.heap.size ≤ gb693)); have GE693 := Aside0.mk ((by rw [hg]; exact (below_size (hbI_ HB (IsS106.ge HI687.out))) : w.heap.size ≤ gb693)); have NB686_693 := nl_ hg BK686; have NB693_686 := ng_ hg BK686; have NB687_693 := Aside0.mk ((by rw [hg]; exact Nat.ne_of_lt (IsS106.lt (show IsS106 w _ gb687 l0 t691 t692 from IsS106.q HI687)) : gb687 ≠ gb693)); have NB693_687 := Aside0.mk ((by rw [hg]; exact Nat.ne_of_gt (IsS106.lt (show IsS106 w _ gb687 l0 t691 t692 from IsS106.q HI687)) : gb693 ≠ gb687)); replace BK686 := kb_ BK686 hb; replace HB := Aside0.mk (below_step (hbI_ HB (IsS106.ge HI687.out)) hb); replace HI687 := IsS106.b HI687 hb; clear hb hbox hg; have := NB693_686.out; have := NB686_693.out; have := NB693_687.out; have := NB687_693.out; obtain ⟨hcz29_0, hcz29_1, hcz29_2, hfz29_0, hfz29_1, hfz29_2⟩ := bx3 BK693) | ((with_reducible refine gate_callee (f := 98) rfl ?_); refine gl_ (some 12) Try.func98 #[.agg #[.int .i64 t688, .int .i64 t689, .int .i64 t690]] rfl rfl rfl ?_; (with_reducible refine (spec_grGood.calls t688 t689 t690 false _ A3.out).mono ?_); rintro e w30 ⟨rfl, hb⟩; refine ⟨_, rfl, ?_⟩; replace BK686 := kfb_ BK686 NB686_693 hb; replace BK693 := Aside0.mk (blk_below (g := gb693) (o := .cells #[.int .i64 t688, .int .i64 t689, .int .i64 t690] 32 (0, 0)) (kpq_ (kputs BK693 [(0, _), (1, _), (2, _)])) hb); replace HB := Aside0.mk (below_step (hbI_ HB (IsS106.ge HI687.out)) hb); replace HI687 := Aside0.mk (IsS106.below (show IsS106 w (((w26.setCell ⟨gb693, 0, none⟩ (.int .i64 t688)).setCell ⟨gb693, 1, none⟩ (.int .i64 t689)).setCell ⟨gb693, 2, none⟩ (.int .i64 t690)) gb687 l0 t691 t692 from IsS106.q HI687) hb); obtain ⟨hcz31_0, hcz31_1, hcz31_2, hfz31_0, hfz31_1, hfz31_2⟩ := bx3 BK693; have := NB686_687.out; have := NB687_686.out; obtain ⟨hcz33_0, hcz33_1, hcz33_2, hfz33_0, hfz33_1, hfz33_2⟩ := bx3 BK686))
 refine bodyPost_ret (results_ct rfl _ _ gb686 32 #[.int .i64 t688, .int .i64 t689, .int .i64 t690] (0, 0) _ rfl (kpq_ (kputs BK686 [(0, _), (1, _), (2, _)])) Try.underlying32 rfl (by kernel_rfl)) rfl ?_
 exact ⟨by first | rfl | (simp [errW_none, errW_some] <;> rfl) | (simp [*, errW_none, errW_some] <;> rfl), hbI_ HB (IsS106.ge HI687.out)⟩

/-! ### spec_CoarseBlock: function 54 -/
def spec_CoarseBlock.f (a0_0 : Int) (a0_1 : Int) (a0_2 : Int) (a1 : Int) : Option (Int × Bool) := (spec_grGood.f a0_0 a0_1 a0_2).bind fun t703 => (if t703 = true then ((spec_grCount.f a0_0 a0_1 a0_2).bind fun t704 => ((spec_l1In.f a1 0 (wrap64 (t704 - 1))).bind fun t705 => (if t705 = true then ((spec_sbCoarse.f a0_0 a0_1 a0_2 a1).bind fun t706 => (some (t706, true))) else (some (0, false))))) else (some (0, false)))
set_option maxHeartbeats 8000000 in
set_option maxRecDepth 100000 in
theorem spec_CoarseBlock.calls (a0_0 : Int) (a0_1 : Int) (a0_2 : Int) (a1 : Int) (r1 : Int) (r2 : Bool) (w : World) (h : spec_CoarseBlock.f a0_0 a0_1 a0_2 a1 = some (r1, r2)) :
  Calls Try.prog 54 #[.agg #[.int .i64 a0_0, .int .i64 a0_1, .int .i64 a0_2], .int .i64 a1] w fun e w' => e = .returned (.tuple #[.int .i64 r1, .bool r2]) ∧ Below w.heap.size w w' := by
 have hu32 := Try.underlying32
 have HB := Aside0.mk (Below.refl w.heap.size w)
 have H := h
 unfold spec_CoarseBlock.f at H
 clear h
 replace H := Option.bind_eq_some_iff.mp H
 obtain ⟨t703, A30, H⟩ := H
 try dsimp only at H
 have A3 := Aside0.mk A30
 clear A30
 by_cases c4 : t703 = true
 ·subst c4
  rw [if_pos rfl] at H
  replace H := Option.bind_eq_some_iff.mp H
  obtain ⟨t704, A50, H⟩ := H
  try dsimp only at H
  have A5 := Aside0.mk A50
  clear A50
  replace H := Option.bind_eq_some_iff.mp H
  obtain ⟨t705, A60, H⟩ := H
  try dsimp only at H
  have A6 := Aside0.mk A60
  clear A60
  by_cases c7 : t705 = true
  ·subst c7
   rw [if_pos rfl] at H
   replace H := Option.bind_eq_some_iff.mp H
   obtain ⟨t706, A80, H⟩ := H
   try dsimp only at H
   have A8 := Aside0.mk A80
   clear A80
   simp only [Option.some.injEq, Prod.mk.injEq] at H
   obtain ⟨rfl, rfl⟩ := H
   go_enter Try.func54, Try.ntmps54
   go_wp2_with (first | ((with_reducible refine gate_dst (N := 2) rfl ?_); refine bv_ 2 (cs := #[.int .i64 a0_0, .int .i64 a0_1, .int .i64 a0_2]) (t := 32) ?_; intro gb702 hg w9 hbox hb; have BK702 := Aside0.mk (hbox); have GW702 := gs_ hg HB; have GE702 := gs_ hg HB; replace HB := hbs_ HB hb; clear hb hbox hg; obtain ⟨hcz10_0, hcz10_1, hcz10_2, hfz10_0, hfz10_1, hfz10_2⟩ := bx3 BK702) | ((with_reducible refine gate_callee (f := 98) rfl ?_); refine gl_ (some 7) Try.func98 #[.agg #[.int .i64 a0_0, .int .i64 a0_1, .int .i64 a0_2]] rfl rfl rfl ?_; (with_reducible refine (spec_grGood.calls a0_0 a0_1 a0_2 true _ A3.out).mono ?_); rintro e w11 ⟨rfl, hb⟩; refine ⟨_, rfl, ?_⟩; replace BK702 := kb_ BK702 hb; replace HB := hbs_ HB hb; obtain ⟨hcz12_0, hcz12_1, hcz12_2, hfz12_0, hfz12_1, hfz12_2⟩ := bx3 BK702) | (go_at_call 79; (with_reducible refine (spec_grCount.calls a0_0 a0_1 a0_2 t704 _ A5.out).mono ?_); rintro e w13 ⟨rfl, hb⟩; replace BK702 := Aside0.mk (blk_below (kp_ BK702) hb); replace HB := Aside0.mk (below_step (hb_ HB) hb)) | (go_at_call 70; (with_reducible refine (spec_l1In.calls a1 0 (wrap64 (t704 - 1)) true _ A6.out).mono ?_); rintro e w' ⟨rfl, ⟨nd, rfl⟩⟩; obtain ⟨hcz14_0, hcz14_1, hcz14_2, hfz14_0, hfz14_1, hfz14_2⟩ := bx3 BK702) | ((with_reducible refine gate_callee (f := 80) rfl ?_); refine gl_ (some 19) Try.func80 #[.agg #[.int .i64 a0_0, .int .i64 a0_1, .int .i64 a0_2], .int .i64 a1] rfl rfl rfl ?_; (with_reducible refine (spec_sbCoarse.calls a0_0 a0_1 a0_2 a1 t706 _ A8.out).mono ?_); rintro e w15 ⟨rfl, hb⟩; refine ⟨_, rfl, ?_⟩; replace BK702 := kb_ BK702 hb; replace HB := hbs_ HB hb))
   go_ret2
   exact ad_ (hb_ HB)
  replace c7 := Bool.eq_false_iff.mpr c7
  subst c7
  rw [if_neg (show ¬ (false = true) by decide)] at H
  simp only [Option.some.injEq, Prod.mk.injEq] at H
  obtain ⟨rfl, rfl⟩ := H
  go_enter Try.func54, Try.ntmps54
  go_wp2_with (first | ((with_reducible refine gate_dst (N := 2) rfl ?_); refine bv_ 2 (cs := #[.int .i64 a0_0, .int .i64 a0_1, .int .i64 a0_2]) (t := 32) ?_; intro gb702 hg w16 hbox hb; have BK702 := Aside0.mk (hbox); have GW702 := gs_ hg HB; have GE702 := gs_ hg HB; replace HB := hbs_ HB hb; clear hb hbox hg; obtain ⟨hcz17_0, hcz17_1, hcz17_2, hfz17_0, hfz17_1, hfz17_2⟩ := bx3 BK702) | ((with_reducible refine gate_callee (f := 98) rfl ?_); refine gl_ (some 7) Try.func98 #[.agg #[.int .i64 a0_0, .int .i64 a0_1, .int .i64 a0_2]] rfl rfl rfl ?_; (with_reducible refine (spec_grGood.calls a0_0 a0_1 a0_2 true _ A3.out).mono ?_); rintro e w18 ⟨rfl, hb⟩; refine ⟨_, rfl, ?_⟩; replace BK702 := kb_ BK702 hb; replace HB := hbs_ HB hb; obtain ⟨hcz19_0, hcz19_1, hcz19_2, hfz19_0, hfz19_1, hfz19_2⟩ := bx3 BK702) | (go_at_call 79; (with_reducible refine (spec_grCount.calls a0_0 a0_1 a0_2 t704 _ A5.out).mono ?_); rintro e w20 ⟨rfl, hb⟩; replace BK702 := Aside0.mk (blk_below (kp_ BK702) hb); replace HB := Aside0.mk (below_step (hb_ HB) hb); try clear BK702; try clear GW702; try clear GE702) | (go_at_call 70; (with_reducible refine (spec_l1In.calls a1 0 (wrap64 (t704 - 1)) false _ A6.out).mono ?_); rintro e w' ⟨rfl, ⟨nd, rfl⟩⟩))
  go_ret2
  exact ad_ (hb_ HB)
 replace c4 := Bool.eq_false_iff.mpr c4
 subst c4
 rw [if_neg (show ¬ (false = true) by decide)] at H
 simp only [Option.some.injEq, Prod.mk.injEq] at H
 obtain ⟨rfl, rfl⟩ := H
 go_enter Try.func54, Try.ntmps54
 go_wp2_with (first | ((with_reducible refine gate_dst (N := 2) rfl ?_); refine bv_ 2 (cs := #[.int .i64 a0_0, .int .i64 a0_1, .int .i64 a0_2]) (t := 32) ?_; intro gb702 hg w21 hbox hb; have BK702 := Aside0.mk (hbox); have GW702 := gs_ hg HB; have GE702 := gs_ hg HB; replace HB := hbs_ HB hb; clear hb hbox hg; obtain ⟨hcz22_0, hcz22_1, hcz22_2, hfz22_0, hfz22_1, hfz22_2⟩ := bx3 BK702) | ((with_reducible refine gate_callee (f := 98) rfl ?_); refine gl_ (some 7) Try.func98 #[.agg #[.int .i64 a0_0, .int .i64 a0_1, .int .i64 a0_2]] rfl rfl rfl ?_; (with_reducible refine (spec_grGood.calls a0_0 a0_1 a0_2 false _ A3.out).mono ?_); rintro e w23 ⟨rfl, hb⟩; refine ⟨_, rfl, ?_⟩; replace BK702 := kb_ BK702 hb; replace HB := hbs_ HB hb))
 go_ret2
 exact ad_ (hb_ HB)

/-! ### spec_DrawJoinPieces: function 55 -/
def spec_DrawJoinPieces.f (k : Nat) (l0 : List Int) : Option ((List (S29))) := (spec_l1Cur_pieces.f k l0 0 0).bind fun bt708 => (some bt708.1)
set_option maxHeartbeats 8000000 in
set_option maxRecDepth 100000 in
theorem spec_DrawJoinPieces.calls (k : Nat) (A0 : Option Addr) (c0 : Nat) (l0 : List Int) (r : List (S29)) (w : World) (hr0 : Kd.C (Kd.int .u8) w A0 l0.length l0) (hc0 : l0.length ≤ c0) (h : spec_DrawJoinPieces.f k l0 = some r) :
  Calls Try.prog 55 #[.slice A0 l0.length c0] w fun e w' => ∃ v0_ : Value, e = .returned (v0_) ∧ Kd.R k29 29 w' w.heap.size (fun _ => True) v0_ r ∧ Below w.heap.size w w' := by
 have hu106 := Try.underlying106
 have HR0 := Aside0.mk hr0
 have HC0 := Aside0.mk hc0
 clear hr0 hc0
 have HB := Aside0.mk (Below.refl w.heap.size w)
 have H := h
 unfold spec_DrawJoinPieces.f at H
 clear h
 replace H := Option.bind_eq_some_iff.mp H
 obtain ⟨⟨t708, t711, t712⟩, A20, H⟩ := H
 try dsimp only at H
 have A2 := Aside0.mk A20
 clear A20
 obtain rfl := Option.some.inj H
 go_enter Try.func55, Try.ntmps55
 go_wp2_with (first | ((with_reducible refine gate_dst (N := 6) rfl ?_); refine bv_ 6 (cs := #[.slice A0 l0.length c0, .int .i64 0, .int .u64 0]) (t := 106) ?_; intro gb707 hg w3 hbox hb; have HI707 := Aside0.mk ((show IsS106 w w3 gb707 l0 0 0 from ⟨A0, c0, hbox, (by rw [hg]; exact (below_size (hb_ HB))), HR0.out⟩)); have GW707 := gs_ hg HB; have GE707 := gs_ hg HB; replace HB := hbs_ HB hb; clear hb hbox hg) | ((with_reducible refine gate_callee (f := 96) rfl ?_); refine gl_ (some 8) Try.func96 #[.pointer (some ⟨gb707, 0, none⟩)] rfl rfl rfl ?_; (with_reducible refine (spec_l1Cur_pieces.calls k gb707 l0 0 0 t708 t711 t712 w _ ?side1 ?side2 A2.out).mono ?_); (case side1 => exact IsS106.q HI707); (case side2 => exact hbI_ HB (IsS106.ge HI707.out)); rintro e w4 ⟨v709, rfl, ho0, hi, hb, hk⟩; refine ⟨_, rfl, ?_⟩; have HO710 := Aside0.mk (Kd.R_lower ho0 (below_size (hbI_ HB (IsS106.ge HI707.out)))); replace HB := Aside0.mk (hb); replace HI707 := Aside0.mk (hi)))
 go_ret
 exact ⟨_, by first | rfl | (simp [errW_none, errW_some] <;> rfl) | (simp [*, errW_none, errW_some] <;> rfl), Kd.R_p HO710, hbI_ HB (IsS106.ge HI707.out)⟩

/-! ### laws_qInts: function 57 -/
def laws_qInts.l0 : Nat → List Int → List Int → Int → Int → Option (Bool)
 | 0, _, _, _, _ => none
 | k + 1, x0, x1, x12, x13 => if x13 < x12 then (if 0 ≤ x13 then (if x13 < (x0.length : Int) then (if x13 < (x1.length : Int) then (if (rd x0 x13) = (rd x1 x13) then (laws_qInts.l0 k x0 x1 x12 (wrap64 (x13 + 1))) else (some false)) else (none)) else (none)) else (none)) else (some true)
def laws_qInts.f (k : Nat) (l0 : List Int) (l1 : List Int) : Option (Bool) := if (l0.length : Int) = (l1.length : Int) then (laws_qInts.l0 k l0 l1 (l0.length : Int) 0) else (some false)
set_option maxHeartbeats 8000000 in
set_option maxRecDepth 100000 in
theorem laws_qInts.calls (k : Nat) (A0 : Option Addr) (c0 : Nat) (l0 : List Int) (A1 : Option Addr) (c1 : Nat) (l1 : List Int) (r : Bool) (w : World) (hr0 : Kd.C (Kd.int .i64) w A0 l0.length l0) (hc0 : l0.length ≤ c0) (hr1 : Kd.C (Kd.int .i64) w A1 l1.length l1) (hc1 : l1.length ≤ c1) (h : laws_qInts.f k l0 l1 = some r) :
  Calls Try.prog 57 #[.slice A0 l0.length c0, .slice A1 l1.length c1] w fun e w' => e = .returned (.bool r) ∧ Drawn0 w w' := by
 have HR0 := Aside0.mk hr0
 have HC0 := Aside0.mk hc0
 clear hr0 hc0
 have HR1 := Aside0.mk hr1
 have HC1 := Aside0.mk hc1
 clear hr1 hc1
 have H := h
 unfold laws_qInts.f at H
 clear h
 by_cases c3 : (l0.length : Int) = (l1.length : Int)
 ·rw [if_pos c3] at H
  have c3b0 : ((l0.length : Int) == (l1.length : Int)) = true := beq_iff_eq.mpr c3
  have c3b1 : ((l0.length : Int) != (l1.length : Int)) = false := bne_eq_false_iff_eq.mpr c3
  have c3b2 : (l0.length == l1.length) = true := by first | simpa using c3 | (simp at c3 ⊢; omega)
  clear c3
  have H' := Aside0.mk H
  clear H
  go_enter Try.func57, Try.ntmps57
  go_wp2
  repeat (go_quiet (fail); try go_wp2)
  go_loopg [13] k (fun kq v13 w' => ∃ (x13_1 : Int), v13 = .int .i64 x13_1 ∧ Aside0 (laws_qInts.l0 kq l0 l1 (l0.length : Int) x13_1 = some r) ∧ Aside0 (kq ≤ k) ∧ Drawn0 w w')
  case atStart => exact ⟨(0), (by first | rfl | (simp; done) | (simp [*]; done)), H', ⟨Nat.le_refl _⟩, by repeat (first | exact Drawn0.refl _ | apply Drawn0.step)⟩
  clear H'
  obtain ⟨x13_1, rfl, HA, HK1, ⟨m1, rfl⟩⟩ := hrel
  cases gk with
  | zero => exact absurd HA.out (by simp [laws_qInts.l0])
  | succ k1 => ?_
  have H := HA.out
  clear HA
  simp only [laws_qInts.l0] at H
  by_cases c4 : x13_1 < (l0.length : Int)
  case neg => rw [if_neg c4] at H; have c4b0 := decide_eq_false c4; clear c4; obtain rfl := Option.some.inj H; go_wp2; (repeat (go_quiet (fail); try go_wp2)); go_ret; (exact ⟨by first | rfl | (simp; done) | (simp [*]; done), by repeat (first | exact Drawn0.refl _ | apply Drawn0.step)⟩)
  rw [if_pos c4] at H
  have c4b0 := decide_eq_true c4
  clear c4
  by_cases c5 : 0 ≤ x13_1
  case neg => rw [if_neg c5] at H; exact absurd H (by simp)
  rw [if_pos c5] at H
  have c5b0 := decide_eq_true c5
  clear c5
  by_cases c6 : x13_1 < (l0.length : Int)
  case neg => rw [if_neg c6] at H; exact absurd H (by simp)
  rw [if_pos c6] at H
  have c6b0 := decide_eq_true c6
  clear c6
  by_cases c7 : x13_1 < (l1.length : Int)
  case neg => rw [if_neg c7] at H; exact absurd H (by simp)
  rw [if_pos c7] at H
  have c7b0 := decide_eq_true c7
  clear c7
  by_cases c8 : (rd l0 x13_1) = (rd l1 x13_1)
  ·rw [if_pos c8] at H
   have c8b0 : ((rd l0 x13_1) == (rd l1 x13_1)) = true := beq_iff_eq.mpr c8
   have c8b1 : ((rd l0 x13_1) != (rd l1 x13_1)) = false := bne_eq_false_iff_eq.mpr c8
   clear c8
   have H' := Aside0.mk H
   clear H
   obtain ⟨ad713, e713, hx713_0, p713, q713⟩ := ai_ HR0.out x13_1
   cases e713
   obtain ⟨ad714, e714, hx714_0, p714, q714⟩ := ai_ HR1.out x13_1
   cases e714
   go_wp2
   repeat (go_quiet (fail); try go_wp2)
   go_roundg k1
   case measure => have := HK1.out; omega
   case rel => exact ⟨(wrap64 (x13_1 + 1)), (by first | rfl | (simp; done) | (simp [*]; done)), H', ⟨by have := HK1.out; omega⟩, by repeat (first | exact Drawn0.refl _ | apply Drawn0.step)⟩
  rw [if_neg c8] at H
  have c8b0 : ((rd l0 x13_1) == (rd l1 x13_1)) = false := beq_eq_false_iff_ne.mpr c8
  have c8b1 : ((rd l0 x13_1) != (rd l1 x13_1)) = true := bne_iff_ne.mpr c8
  obtain rfl := Option.some.inj H
  obtain ⟨ad713, e713, hx713_0, p713, q713⟩ := ai_ HR0.out x13_1
  cases e713
  obtain ⟨ad714, e714, hx714_0, p714, q714⟩ := ai_ HR1.out x13_1
  cases e714
  go_wp2
  repeat (go_quiet (fail); try go_wp2)
  go_ret
  exact ⟨by first | rfl | (simp; done) | (simp [*]; done), by repeat (first | exact Drawn0.refl _ | apply Drawn0.step)⟩
 rw [if_neg c3] at H
 have c3b0 : ((l0.length : Int) == (l1.length : Int)) = false := beq_eq_false_iff_ne.mpr c3
 have c3b1 : ((l0.length : Int) != (l1.length : Int)) = true := bne_iff_ne.mpr c3
 have c3b2 : (l0.length == l1.length) = false := by first | simpa using c3 | (simp at c3 ⊢; omega)
 obtain rfl := Option.some.inj H
 go_enter Try.func57, Try.ntmps57
 go_wp2
 repeat (go_quiet (fail); try go_wp2)
 go_ret
 exact ⟨by first | rfl | (simp; done) | (simp [*]; done), by repeat (first | exact Drawn0.refl _ | apply Drawn0.step)⟩

end Go.Proofs.Ytceajigggcihnaa.PFnCoarse
