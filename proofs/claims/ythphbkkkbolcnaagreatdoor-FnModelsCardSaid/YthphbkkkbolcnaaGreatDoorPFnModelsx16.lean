-- Laid for this claim by wip/tools/print2.sh, a changed copy of the kit's print (wip/tools/patch_print.py): not by print.sh.
import Derived.Test.YthphbkkkbolcnaaGreatDoorPFnModelsx5
import Derived.Test.YthphbkkkbolcnaaGreatDoorVFnModels
namespace Go.Proofs.YthphbkkkbolcnaaGreatDoor.PFnModels
set_option maxHeartbeats 8000000
set_option maxRecDepth 100000
open Go.RowKit Go.Proofs.YthphbkkkbolcnaaGreatDoorW.PrintWords Go.Proofs.YthphbkkkbolcnaaGreatDoorW.PrintLast Go.Proofs.YthphbkkkbolcnaaGreatDoorW.PrintMore
set_option linter.unusedVariables false
set_option linter.unusedSimpArgs false

/-! ### spec_l1Cur_some: function 70 -/
mutual
def spec_l1Cur_some.l0 : Nat → Int → List Int → Int → List Int → Int → Int → Option (List Int × Int × Int)
 | 0, _, _, _, _, _, _ => none
 | k + 1, x1, x5, x6, x1000, x1001, x1002 => if x6 < x1 then ((spec_l1Cur_one.f x1000 x1001 x1002 3).bind fun bt526 => (if bt526.1 = true then (if x5.length < 17592186044416 then (spec_l1Cur_some.l0 k x1 (x5 ++ [x6]) (wrap64 (x6 + 1)) x1000 bt526.2.1 bt526.2.2) else (none)) else (spec_l1Cur_some.l0 k x1 x5 (wrap64 (x6 + 1)) x1000 bt526.2.1 bt526.2.2))) else ((spec_l1Cur_pick.f x1000 x1001 x1002 24).bind fun bt532 => (if bt532.1 = 0 then ((spec_l1Cur_among.f x1000 bt532.2.1 bt532.2.2 (([(-1), x1, 0] : List Int))).bind fun bt538 => (if x5.length < 17592186044416 then (some ((x5 ++ [bt538.1]), bt538.2.1, bt538.2.2)) else (none))) else (if bt532.1 = 1 then (spec_l1Cur_some.l1 k x1 ([] : List Int) 0 x1000 bt532.2.1 bt532.2.2) else (some (x5, bt532.2.1, bt532.2.2)))))
def spec_l1Cur_some.l1 : Nat → Int → List Int → Int → List Int → Int → Int → Option (List Int × Int × Int)
 | 0, _, _, _, _, _, _ => none
 | k + 1, x1, x5, x7, x1000, x1001, x1002 => if x7 < x1 then (if x5.length < 17592186044416 then (spec_l1Cur_some.l1 k x1 (x5 ++ [x7]) (wrap64 (x7 + 1)) x1000 x1001 x1002) else (none)) else (some (x5, x1001, x1002))
end
def spec_l1Cur_some.f (k : Nat) (s0_0 : List Int) (s0_1 : Int) (s0_2 : Int) (a1 : Int) : Option (List Int × Int × Int) := spec_l1Cur_some.l0 k a1 ([] : List Int) 0 s0_0 s0_1 s0_2
theorem spec_l1Cur_some.calls (k : Nat) (g : Nat) (s0_0 : List Int) (s0_1 : Int) (s0_2 : Int) (a1 : Int) (r1 : List Int) (r2 : Int) (r3 : Int) (w0 w : World) (hI : IsS75 w0 w g s0_0 s0_1 s0_2) (hB : Below w0.heap.size w0 w) (h : spec_l1Cur_some.f k s0_0 s0_1 s0_2 a1 = some (r1, r2, r3)) :
  Calls Tryz.prog 70 #[.pointer (some ⟨g, 0, none⟩), .int .i64 a1] w fun e w' => ∃ v0_ : Value, e = .returned (v0_) ∧ Kd.R (Kd.int .i64) 3 w' w.heap.size (fun _ => True) v0_ r1 ∧ IsS75 w0 w' g s0_0 r2 r3 ∧ Below w0.heap.size w0 w' ∧ KeepBut w w' g none := by
 have HI0 := am_ hI
 have HK := am_ (KeepBut.refl w g none)
 have HL := am_ hB.size
 clear hI
 have HW0 := am_ hB.size
 have HB := am_ hB
 clear hB
 have H := h
 unfold spec_l1Cur_some.f at H
 clear h
 have H' := am_ H
 clear H
 go_enter Tryz.func70, Tryz.ntmps70
 go_wp2
 go_loopg [5, 6] k (fun kq v5 v6 w' => ∃ (x5_1 : List Int) (x6_1 : Int) (x1001_1 : Int) (x1002_1 : Int), v6 = .int .i64 x6_1 ∧ Aside0 (spec_l1Cur_some.l0 kq a1 x5_1 x6_1 s0_0 x1001_1 x1002_1 = some (r1, r2, r3)) ∧ Aside0 (kq ≤ k) ∧ Aside0 (Kd.R (Kd.int .i64) 3 w' w.heap.size (fun _ => True) v5 x5_1) ∧ Aside0 (IsS75 w0 w' g s0_0 x1001_1 x1002_1) ∧ Aside0 (KeepBut w w' g none) ∧ Aside0 (Below w0.heap.size w0 w'))
 case atStart => exact ⟨(([] : List Int)), (0), (s0_1), (s0_2), sr_, H', ⟨Nat.le_refl _⟩, ⟨by first | exact Kd.R_nil _ _ _ _ _ | exact Kd.N_nil _ _ _ _ _ | exact Kd.V_nil _ _ _ _ _ | exact Kd.Q_nil _ _ _ _ _ | exact Kd.S_nil _ _ _ _ _⟩, ⟨IsS75.q HI0⟩, ⟨hk_ HK⟩, ⟨hbI_ HB (IsS75.ge HI0.out)⟩⟩
 clear H'
 obtain ⟨x5_1, x6_1, x1001_1, x1002_1, rfl, HA, HK1, HO_5, HI0, HK, HB⟩ := hrel
 cases gk with
 | zero => exact absurd HA.out (by simp [spec_l1Cur_some.l0])
 | succ k1 => ?_
 have H := HA.out
 clear HA
 simp only [spec_l1Cur_some.l0] at H
 by_cases c3 : x6_1 < a1
 ·rw [if_pos c3] at H
  have c3b0 := decide_eq_true c3
  clear c3
  revert H; refine bn_ ?_; rintro ⟨t526, t527, t528⟩ A4 H; try dsimp only at H
  by_cases c5 : t526 = true
  ·subst c5
   rw [if_pos rfl] at H
   revert H; refine pf_ fun c6 H => ?_
   have LMc6 := am_ c6
   clear c6
   obtain ⟨y529, hy529⟩ : ∃ y_ : List Int, y_ = (x5_1 ++ [x6_1]) := ⟨_, rfl⟩
   (try with_reducible replace H := (Option.bind_some _ _).symm.trans H); (try dsimp only at H); (try rw [← hy529] at H)
   have Ny529 := am_ hy529
   clear hy529
   have H' := am_ H
   clear H
   go_wp2_with (first | ((with_reducible refine gk_ 51 ?_); refine gq_ 14 Tryz.func51 #[.pointer (some ⟨g, 0, none⟩), .int .i64 3] ?_; (with_reducible refine (spec_l1Cur_one.calls g s0_0 x1001_1 x1002_1 3 true t527 t528 w0 _ ?_ ?_ A4.out).mono ?_); exact IsS75.q HI0; exact hbI_ HB (IsS75.ge HI0.out); rintro e w7 ⟨rfl, hi, hb, hk⟩; refine ⟨_, rfl, ?_⟩; replace HO_5 := IsS75.rk HI0 HO_5 hk; replace HK := kt_ HK hk; replace HB := am_ (hb); replace HI0 := am_ (hi)) | ((with_reducible refine gate_builtin (b := .append) (xs := #[.tmp 15, .tmp 17]) rfl ?_); at_builtin; refine Kd.R_append (Kd.int .i64) w.heap.size rfl (.tmp 15) (.tmp 17) 26 3 (.int .i64 0) 8 rfl Tryz.underlying26 info3 rfl (by decide) (by omega) u5 x5_1 x6_1 [.int .i64 x6_1] (fun _ => True) (fun _ => False) rfl rfl ?aP (fun _ hk => hk.elim) ?aF ?aO (Below.refl _ _) ?aS ?aL ?_; (case aP => exact rfl); (case aF => exact (fun _ _ => trivial)); (case aO => exact (Kd.R_p HO_5)); (case aS => exact (keep_size (hk_ HK))); (case aL => have := LMc6.out; omega); intro v530 w8 ho hb hg hat; rw [← Ny529.out] at ho; have HO531 := am_ (ho); replace HB := am_ (below_weaken (hbI_ HB (IsS75.ge HI0.out)) HL.out hb); replace HK := am_ (KeepBut.trans (hk_ HK) (KeepBut.of_grown hg g) (Kd.R_base2 HO_5.out)); replace HI0 := am_ (IsS75.grown (IsS75.q HI0) hg (IsS75.own_ne HI0.out HO_5.out (by decide))); clear HO_5; clear ho hb hg hat))
   go_roundg k1
   case measure => have := HK1.out; omega
   case rel => exact ⟨(y529), (wrap64 (x6_1 + 1)), (t527), (t528), sr_, H', ⟨by have := HK1.out; omega⟩, ⟨Kd.R_p HO531⟩, ⟨IsS75.q HI0⟩, ⟨hk_ HK⟩, ⟨hbI_ HB (IsS75.ge HI0.out)⟩⟩
  replace c5 := Bool.eq_false_iff.mpr c5
  subst c5
  rw [if_neg (show ¬ (false = true) by decide)] at H
  have H' := am_ H
  clear H
  go_wp2_with (first | ((with_reducible refine gk_ 51 ?_); refine gq_ 14 Tryz.func51 #[.pointer (some ⟨g, 0, none⟩), .int .i64 3] ?_; (with_reducible refine (spec_l1Cur_one.calls g s0_0 x1001_1 x1002_1 3 false t527 t528 w0 _ ?_ ?_ A4.out).mono ?_); exact IsS75.q HI0; exact hbI_ HB (IsS75.ge HI0.out); rintro e w9 ⟨rfl, hi, hb, hk⟩; refine ⟨_, rfl, ?_⟩; replace HO_5 := IsS75.rk HI0 HO_5 hk; replace HK := kt_ HK hk; replace HB := am_ (hb); replace HI0 := am_ (hi)))
  go_roundg k1
  case measure => have := HK1.out; omega
  case rel => exact ⟨(x5_1), (wrap64 (x6_1 + 1)), (t527), (t528), sr_, H', ⟨by have := HK1.out; omega⟩, ⟨Kd.R_p HO_5⟩, ⟨IsS75.q HI0⟩, ⟨hk_ HK⟩, ⟨hbI_ HB (IsS75.ge HI0.out)⟩⟩
 rw [if_neg c3] at H
 have c3b0 := decide_eq_false c3
 clear c3
 revert H; refine bn_ ?_; rintro ⟨t532, t533, t534⟩ A10 H; try dsimp only at H
 by_cases c11 : t532 = 0
 ·rw [if_pos c11] at H
  have c11b0 : (t532 == 0) = true := beq_iff_eq.mpr c11
  have c11b1 : (t532 != 0) = false := bne_eq_false_iff_eq.mpr c11
  clear c11
  obtain ⟨y535, hy535⟩ : ∃ y_ : List Int, y_ = (([(-1), a1, 0] : List Int)) := ⟨_, rfl⟩
  (try with_reducible replace H := (Option.bind_some _ _).symm.trans H); (try dsimp only at H); (try rw [← hy535] at H)
  have Ny535 := am_ hy535
  clear hy535
  revert H; refine bn_ ?_; rintro ⟨t538, t539, t540⟩ A12 H; try dsimp only at H
  revert H; refine pf_ fun c13 H => ?_
  have LMc13 := am_ c13
  clear c13
  obtain ⟨y541, hy541⟩ : ∃ y_ : List Int, y_ = (x5_1 ++ [t538]) := ⟨_, rfl⟩
  (try with_reducible replace H := (Option.bind_some _ _).symm.trans H); (try dsimp only at H); (try rw [← hy541] at H)
  have Ny541 := am_ hy541
  clear hy541
  simp only [Option.some.injEq, Prod.mk.injEq] at H
  obtain ⟨rfl, rfl, rfl⟩ := H
  go_wp2_with (first | ((with_reducible refine gk_ 75 ?_); refine gq_ 20 Tryz.func75 #[.pointer (some ⟨g, 0, none⟩), .int .i64 24] ?_; (with_reducible refine (spec_l1Cur_pick.calls g s0_0 x1001_1 x1002_1 24 t532 t533 t534 w0 _ ?_ ?_ A10.out).mono ?_); exact IsS75.q HI0; exact hbI_ HB (IsS75.ge HI0.out); rintro e w14 ⟨rfl, hi, hb, hk⟩; refine ⟨_, rfl, ?_⟩; replace HO_5 := IsS75.rk HI0 HO_5 hk; replace HK := kt_ HK hk; replace HB := am_ (hb); replace HI0 := am_ (hi)) | ((with_reducible refine gate_dst (N := 26) rfl ?_); refine Kd.R_lit (Kd.int .i64) _ 3 ?hg (N := 26) ?hd (xs := ([(-1), a1, 0] : List Int)) (inner := [.int .i64 (-1), .int .i64 a1, .int .i64 0]) (ok := fun _ => True) (okp := fun _ => True) ?hr ?hp (fun _ hk => hk) trivial (Below.refl _ _) (Nat.le_refl _) (by simp) ?_; (case hd => rfl); (case hg => rfl); (case hr => first | (go_simp; done) | (go_simp; rfl)); (case hp => exact (Reps.one (show Kd.M (Kd.int .i64) _ _ _ (-1) [.int .i64 (-1)] from rfl) (Reps.one (show Kd.M (Kd.int .i64) _ _ _ a1 [.int .i64 a1] from rfl) (Reps.one (show Kd.M (Kd.int .i64) _ _ _ 0 [.int .i64 0] from rfl) (Reps.none _ _))))); intro v536 w15 ho16 hb hg_ hnew_; clear hg_ hnew_; (first | rw [← Ny535.out] at ho16 | (simp only [Int.reduceToNat] at ho16; rw [← Ny535.out] at ho16)); have HO537 := am_ (Kd.R_lower (Kd.R_nw ho16 HO_5) (keep_size (hk_ HK))); replace HO_5 := Kd.R_e HO_5 ho16 hb; replace HK := hkb_ HK hb; replace HB := am_ (below_step (hbI_ HB (IsS75.ge HI0.out)) hb); replace HI0 := IsS75.b HI0 hb; clear hb ho16; obtain ⟨Ao17, co17, eo17⟩ := Kd.R_slice HO537.out; subst eo17) | ((with_reducible refine gk_ 74 ?_); refine gq_ 27 Tryz.func74 #[.pointer (some ⟨g, 0, none⟩), .slice Ao17 y535.length co17] ?_; (with_reducible refine (spec_l1Cur_among.calls g s0_0 t533 t534 _ _ y535 t538 t539 t540 w0 _ ?_ ?_ ?_ ?_ ?_ A12.out).mono ?_); exact IsS75.q HI0; exact hbI_ HB (IsS75.ge HI0.out); exact Kd.C_o HO537; exact (Kd.R_reads' HO537.out).2.1; exact far_slice (IsS75.own_ne HI0.out HO537.out (by decide)); rintro e w18 ⟨rfl, hi, hb, hk⟩; refine ⟨_, rfl, ?_⟩; replace HO_5 := IsS75.rk HI0 HO_5 hk; replace HO537 := IsS75.rk HI0 HO537 hk; replace HK := kt_ HK hk; replace HB := am_ (hb); replace HI0 := am_ (hi); try clear HO537) | ((with_reducible refine gate_builtin (b := .append) (xs := #[.tmp 23, .tmp 28]) rfl ?_); at_builtin; refine Kd.R_append (Kd.int .i64) w.heap.size rfl (.tmp 23) (.tmp 28) 26 3 (.int .i64 0) 8 rfl Tryz.underlying26 info3 rfl (by decide) (by omega) u5 x5_1 t538 [.int .i64 t538] (fun _ => True) (fun _ => False) rfl rfl ?aP (fun _ hk => hk.elim) ?aF ?aO (Below.refl _ _) ?aS ?aL ?_; (case aP => exact rfl); (case aF => exact (fun _ _ => trivial)); (case aO => exact (rm_ (h := HO_5.out))); (case aS => exact (keep_size (hk_ HK))); (case aL => have := LMc13.out; omega); intro v542 w19 ho hb hg hat; rw [← Ny541.out] at ho; have HO543 := am_ (ho); replace HB := am_ (below_weaken (hbI_ HB (IsS75.ge HI0.out)) HL.out hb); replace HK := am_ (KeepBut.trans (hk_ HK) (KeepBut.of_grown hg g) (Kd.R_base2 HO_5.out)); replace HI0 := am_ (IsS75.grown (IsS75.q HI0) hg (IsS75.own_ne HI0.out HO_5.out (by decide))); clear HO_5; clear ho hb hg hat))
  go_ret
  exact ⟨_, se_, Kd.R_p HO543, IsS75.q HI0, hbI_ HB (IsS75.ge HI0.out), hk_ HK⟩
 rw [if_neg c11] at H
 have c11b0 : (t532 == 0) = false := beq_eq_false_iff_ne.mpr c11
 have c11b1 : (t532 != 0) = true := bne_iff_ne.mpr c11
 by_cases c20 : t532 = 1
 ·rw [if_pos c20] at H
  have c20b0 : (t532 == 1) = true := beq_iff_eq.mpr c20
  have c20b1 : (t532 != 1) = false := bne_eq_false_iff_eq.mpr c20
  clear c20
  have H' := am_ H
  clear H
  go_wp2_with (first | ((with_reducible refine gk_ 75 ?_); refine gq_ 20 Tryz.func75 #[.pointer (some ⟨g, 0, none⟩), .int .i64 24] ?_; (with_reducible refine (spec_l1Cur_pick.calls g s0_0 x1001_1 x1002_1 24 t532 t533 t534 w0 _ ?_ ?_ A10.out).mono ?_); exact IsS75.q HI0; exact hbI_ HB (IsS75.ge HI0.out); rintro e w21 ⟨rfl, hi, hb, hk⟩; refine ⟨_, rfl, ?_⟩; replace HO_5 := IsS75.rk HI0 HO_5 hk; replace HK := kt_ HK hk; replace HB := am_ (hb); replace HI0 := am_ (hi)))
  go_loopg [5, 7] k1 (fun kq v5 v7 w' => ∃ (x5_2 : List Int) (x7_2 : Int), v7 = .int .i64 x7_2 ∧ Aside0 (spec_l1Cur_some.l1 kq a1 x5_2 x7_2 s0_0 t533 t534 = some (r1, r2, r3)) ∧ Aside0 (kq ≤ k1) ∧ Aside0 (Kd.R (Kd.int .i64) 3 w' w.heap.size (fun _ => True) v5 x5_2) ∧ Aside0 (IsS75 w0 w' g s0_0 t533 t534) ∧ Aside0 (KeepBut w w' g none) ∧ Aside0 (Below w0.heap.size w0 w'))
  case atStart => exact ⟨(([] : List Int)), (0), sr_, H', ⟨Nat.le_refl _⟩, ⟨by first | exact Kd.R_nil _ _ _ _ _ | exact Kd.N_nil _ _ _ _ _ | exact Kd.V_nil _ _ _ _ _ | exact Kd.Q_nil _ _ _ _ _ | exact Kd.S_nil _ _ _ _ _⟩, ⟨IsS75.q HI0⟩, ⟨hk_ HK⟩, ⟨hbI_ HB (IsS75.ge HI0.out)⟩⟩
  clear H'
  obtain ⟨x5_2, x7_2, rfl, HA, HK2, HO_5, HI0, HK, HB⟩ := hrel
  cases gk with
  | zero => exact absurd HA.out (by simp [spec_l1Cur_some.l1])
  | succ k2 => ?_
  have H := HA.out
  clear HA
  simp only [spec_l1Cur_some.l1] at H
  by_cases c22 : x7_2 < a1
  case neg => rw [if_neg c22] at H; have c22b0 := decide_eq_false c22; clear c22; simp only [Option.some.injEq, Prod.mk.injEq] at H; obtain ⟨rfl, rfl, rfl⟩ := H; go_wp2; go_ret; (exact ⟨_, se_, Kd.R_p HO_5, IsS75.q HI0, hbI_ HB (IsS75.ge HI0.out), hk_ HK⟩)
  rw [if_pos c22] at H
  have c22b0 := decide_eq_true c22
  clear c22
  revert H; refine pf_ fun c23 H => ?_
  have LMc23 := am_ c23
  clear c23
  obtain ⟨y544, hy544⟩ : ∃ y_ : List Int, y_ = (x5_2 ++ [x7_2]) := ⟨_, rfl⟩
  (try with_reducible replace H := (Option.bind_some _ _).symm.trans H); (try dsimp only at H); (try rw [← hy544] at H)
  have Ny544 := am_ hy544
  clear hy544
  have H' := am_ H
  clear H
  go_wp2_with (first | ((with_reducible refine gate_builtin (b := .append) (xs := #[.tmp 37, .tmp 39]) rfl ?_); at_builtin; refine Kd.R_append (Kd.int .i64) w.heap.size rfl (.tmp 37) (.tmp 39) 26 3 (.int .i64 0) 8 rfl Tryz.underlying26 info3 rfl (by decide) (by omega) u5 x5_2 x7_2 [.int .i64 x7_2] (fun _ => True) (fun _ => False) rfl rfl ?aP (fun _ hk => hk.elim) ?aF ?aO (Below.refl _ _) ?aS ?aL ?_; (case aP => exact rfl); (case aF => exact (fun _ _ => trivial)); (case aO => exact (Kd.R_p HO_5)); (case aS => exact (keep_size (hk_ HK))); (case aL => have := LMc23.out; omega); intro v545 w24 ho hb hg hat; rw [← Ny544.out] at ho; have HO546 := am_ (ho); replace HB := am_ (below_weaken (hbI_ HB (IsS75.ge HI0.out)) HL.out hb); replace HK := am_ (KeepBut.trans (hk_ HK) (KeepBut.of_grown hg g) (Kd.R_base2 HO_5.out)); replace HI0 := am_ (IsS75.grown (IsS75.q HI0) hg (IsS75.own_ne HI0.out HO_5.out (by decide))); clear HO_5; clear ho hb hg hat))
  go_roundg k2
  case measure => have := HK1.out; have := HK2.out; omega
  case rel => exact ⟨(y544), (wrap64 (x7_2 + 1)), sr_, H', ⟨by have := HK1.out; have := HK2.out; omega⟩, ⟨Kd.R_p HO546⟩, ⟨IsS75.q HI0⟩, ⟨hk_ HK⟩, ⟨hbI_ HB (IsS75.ge HI0.out)⟩⟩
 rw [if_neg c20] at H
 have c20b0 : (t532 == 1) = false := beq_eq_false_iff_ne.mpr c20
 have c20b1 : (t532 != 1) = true := bne_iff_ne.mpr c20
 simp only [Option.some.injEq, Prod.mk.injEq] at H
 obtain ⟨rfl, rfl, rfl⟩ := H
 go_wp2_with (first | ((with_reducible refine gk_ 75 ?_); refine gq_ 20 Tryz.func75 #[.pointer (some ⟨g, 0, none⟩), .int .i64 24] ?_; (with_reducible refine (spec_l1Cur_pick.calls g s0_0 x1001_1 x1002_1 24 t532 t533 t534 w0 _ ?_ ?_ A10.out).mono ?_); exact IsS75.q HI0; exact hbI_ HB (IsS75.ge HI0.out); rintro e w25 ⟨rfl, hi, hb, hk⟩; refine ⟨_, rfl, ?_⟩; replace HO_5 := IsS75.rk HI0 HO_5 hk; replace HK := kt_ HK hk; replace HB := am_ (hb); replace HI0 := am_ (hi)))
 go_ret
 exact ⟨_, se_, Kd.R_p HO_5, IsS75.q HI0, hbI_ HB (IsS75.ge HI0.out), hk_ HK⟩

/-! ### spec_DrawSumsOf: function 45 -/
def spec_DrawSumsOf.f (k : Nat) (l0 : List Int) : Option (Int × Int × Int × List Int × List Int × List Int × List Int) := (spec_l1Cur_anyModel.f k l0 0 0).bind fun bt549 => ((spec_l1Cur_some.f k l0 bt549.2.2.2.2.2.2.1 bt549.2.2.2.2.2.2.2 (bt549.2.2.2.1.length : Int)).bind fun bt564 => (some (bt549.1, bt549.2.1, bt549.2.2.1, bt549.2.2.2.1, bt549.2.2.2.2.1, bt549.2.2.2.2.2.1, bt564.1)))
def spec_DrawSumsOf.T3 : Bool × List (List Nat × List Nat) := (true, [([], []), ([], []), ([], []), ([2], [2]), ([3], [3]), ([1, 4], [1, 4]), ([0, 5, 0], [0]), ([5, 6, 0, 1, 2, 3, 4, 5, 6], [5])])
def spec_DrawSumsOf.B3 : List Nat := [0, 0, 0, 4, 12, 30, 63, 127]
theorem spec_DrawSumsOf.tab3 : rtab .any (opsOf Tryz.f45 3) = spec_DrawSumsOf.T3 := by kernel_rfl
theorem spec_DrawSumsOf.bits3 : waitsOk spec_DrawSumsOf.T3.2 spec_DrawSumsOf.B3 = true := by kernel_rfl
theorem spec_DrawSumsOf.calls (k : Nat) (A0 : Option Addr) (c0 : Nat) (l0 : List Int) (r1 : Int) (r2 : Int) (r3 : Int) (r4 : List Int) (r5 : List Int) (r6 : List Int) (r7 : List Int) (w : World) (hr0 : Kd.C (Kd.int .u8) w A0 l0.length l0) (hc0 : l0.length ≤ c0) (h : spec_DrawSumsOf.f k l0 = some (r1, r2, r3, r4, r5, r6, r7)) :
  Calls Tryz.prog 45 #[.slice A0 l0.length c0] w fun e w' => ∃ v3_ v4_ v5_ v6_ : Value, e = .returned (.tuple #[.agg #[.int .i64 r1, .int .i64 r2, .int .i64 r3, v3_, v4_, v5_], v6_]) ∧ Kd.R (Kd.int .i64) 3 w' w.heap.size (fun k_ => some k_ ≠ (v4_ : Value).ownBlock ∧ some k_ ≠ (v5_ : Value).ownBlock ∧ some k_ ≠ (v6_ : Value).ownBlock) v3_ r4 ∧ Kd.R (Kd.int .i64) 3 w' w.heap.size (fun k_ => some k_ ≠ (v3_ : Value).ownBlock ∧ some k_ ≠ (v5_ : Value).ownBlock ∧ some k_ ≠ (v6_ : Value).ownBlock) v4_ r5 ∧ Kd.R (Kd.int .i64) 3 w' w.heap.size (fun k_ => some k_ ≠ (v3_ : Value).ownBlock ∧ some k_ ≠ (v4_ : Value).ownBlock ∧ some k_ ≠ (v6_ : Value).ownBlock) v5_ r6 ∧ Kd.R (Kd.int .i64) 3 w' w.heap.size (fun k_ => some k_ ≠ (v3_ : Value).ownBlock ∧ some k_ ≠ (v4_ : Value).ownBlock ∧ some k_ ≠ (v5_ : Value).ownBlock) v6_ r7 ∧ Below w.heap.size w w' := by
 have hu28 := Tryz.underlying28
 have hu75 := Tryz.underlying75
 have HR0 := am_ hr0
 have HC0 := am_ hc0
 clear hr0 hc0
 have HB := am_ (Below.refl w.heap.size w)
 have H := h
 unfold spec_DrawSumsOf.f at H
 clear h
 revert H; refine bn_ ?_; rintro ⟨t549, t550, t551, t552, t555, t558, t561, t562⟩ A2 H; try dsimp only at H
 revert H; refine bn_ ?_; rintro ⟨t564, t567, t568⟩ A3 H; try dsimp only at H
 simp only [Option.some.injEq, Prod.mk.injEq] at H
 obtain ⟨rfl, rfl, rfl, rfl, rfl, rfl, rfl⟩ := H
 go_enter Tryz.func45, Tryz.ntmps45
 try go_wp2_with (first | ((with_reducible refine gate_dst (N := 2) rfl ?_); refine bv_ 2 (cs := #[.int .i64 0, .int .i64 0, .int .i64 0, .slice none 0 0, .slice none 0 0, .slice none 0 0]) (t := 28) ?_; intro gb547 hg w4 hbox hb; have BK547 := am_ (hbox); have GW547 := gs_ hg HB; have GE547 := gs_ hg HB; replace HB := hbs_ HB hb; clear hb hbox hg) | ((with_reducible refine gate_dst (N := 8) rfl ?_); refine bv_ 8 (cs := #[.slice A0 l0.length c0, .int .i64 0, .int .u64 0]) (t := 75) ?_; intro gb548 hg w5 hbox hb; have HI548 := am_ ((show IsS75 w w5 gb548 l0 0 0 from ⟨A0, c0, hbox, (by rw [hg]; exact (below_size (hb_ HB))), HR0.out⟩)); have GW548 := gs_ hg HB; have GE548 := gs_ hg HB; have NB547_548 := nl_ hg BK547; have NB548_547 := ng_ hg BK547; replace BK547 := kb_ BK547 hb; replace HB := hbs_ HB hb; clear hb hbox hg) | ((with_reducible refine gk_ 55 ?_); refine gq_ 10 Tryz.func55 #[.pointer (some ⟨gb548, 0, none⟩)] ?_; (with_reducible refine (spec_l1Cur_anyModel.calls k gb548 l0 0 0 t549 t550 t551 t552 t555 t558 t561 t562 w _ ?_ ?_ A2.out).mono ?_); exact IsS75.q HI548; exact hbI_ HB (IsS75.ge HI548.out); rintro e w6 ⟨v553, v556, v559, rfl, ho0, ho1, ho2, hi, hb, hk⟩; refine ⟨_, rfl, ?_⟩; have HO554 := am_ (Kd.R_lower ho0 (below_size (hbI_ HB (IsS75.ge HI548.out)))); have HO557 := am_ (Kd.R_lower ho1 (below_size (hbI_ HB (IsS75.ge HI548.out)))); have HO560 := am_ (Kd.R_lower ho2 (below_size (hbI_ HB (IsS75.ge HI548.out)))); replace BK547 := kk_ BK547 hk NB547_548; replace HB := am_ (hb); replace HI548 := am_ (hi)) | ((with_reducible refine gate_dst (N := 5) rfl ?_); refine bv_ 5 (cs := #[.int .i64 0, .int .i64 0, .int .i64 0, .slice none 0 0, .slice none 0 0, .slice none 0 0]) (t := 28) ?_; intro gb563 hg w7 hbox hb; have BK563 := am_ (hbox); have GW563 := am_ ((by rw [hg]; exact (below_size (hbI_ HB (IsS75.ge HI548.out))) : w.heap.size ≤ gb563)); have GE563 := am_ ((by rw [hg]; exact (below_size (hbI_ HB (IsS75.ge HI548.out))) : w.heap.size ≤ gb563)); have NB547_563 := nl_ hg BK547; have NB563_547 := ng_ hg BK547; have NB548_563 := am_ ((by rw [hg]; exact Nat.ne_of_lt (IsS75.lt (show IsS75 w _ gb548 l0 t561 t562 from IsS75.q HI548)) : gb548 ≠ gb563)); have NB563_548 := am_ ((by rw [hg]; exact Nat.ne_of_gt (IsS75.lt (show IsS75 w _ gb548 l0 t561 t562 from IsS75.q HI548)) : gb563 ≠ gb548)); replace HO554 := Kd.R_b HO554 hb; replace HO557 := Kd.R_b HO557 hb; replace HO560 := Kd.R_b HO560 hb; replace BK547 := kb_ BK547 hb; replace HB := am_ (below_step (hbI_ HB (IsS75.ge HI548.out)) hb); replace HI548 := IsS75.b HI548 hb; clear hb hbox hg; have := NB563_547.out; have := NB547_563.out; have := NB563_548.out; have := NB548_563.out; obtain ⟨hcz10_0, hcz10_1, hcz10_2, hcz10_3, hcz10_4, hcz10_5, hfz10_0, hfz10_1, hfz10_2, hfz10_3, hfz10_4, hfz10_5⟩ := bx6 BK563; obtain ⟨Ao11, co11, eo11⟩ := Kd.R_slice HO554.out; subst eo11; obtain ⟨Ao12, co12, eo12⟩ := Kd.R_slice HO557.out; subst eo12; obtain ⟨Ao13, co13, eo13⟩ := Kd.R_slice HO560.out; subst eo13))
 have n0_ : Aside0 (Kd.R (Kd.int .i64) 3 ((((((w7.setCell ⟨gb563, 0, none⟩ (.int .i64 t549)).setCell ⟨gb563, 1, none⟩ (.int .i64 t550)).setCell ⟨gb563, 2, none⟩ (.int .i64 t551)).setCell ⟨gb563, 3, none⟩ (.slice Ao11 t552.length co11)).setCell ⟨gb563, 4, none⟩ (.slice Ao12 t555.length co12)).setCell ⟨gb563, 5, none⟩ (.slice Ao13 t558.length co13)) w.heap.size (fun k_ => some k_ ≠ (.slice Ao12 t555.length co12 : Value).ownBlock ∧ some k_ ≠ (.slice Ao13 t558.length co13 : Value).ownBlock) (.slice Ao11 t552.length co11) t552) := ⟨Kd.R_mono (Kd.R_s HO554 BK563) (fun _ hk => ⟨hk.1, hk.2⟩)⟩
 have n1_ : Aside0 (Kd.R (Kd.int .i64) 3 ((((((w7.setCell ⟨gb563, 0, none⟩ (.int .i64 t549)).setCell ⟨gb563, 1, none⟩ (.int .i64 t550)).setCell ⟨gb563, 2, none⟩ (.int .i64 t551)).setCell ⟨gb563, 3, none⟩ (.slice Ao11 t552.length co11)).setCell ⟨gb563, 4, none⟩ (.slice Ao12 t555.length co12)).setCell ⟨gb563, 5, none⟩ (.slice Ao13 t558.length co13)) w.heap.size (fun k_ => some k_ ≠ (.slice Ao11 t552.length co11 : Value).ownBlock ∧ some k_ ≠ (.slice Ao13 t558.length co13 : Value).ownBlock) (.slice Ao12 t555.length co12) t555) := ⟨Kd.R_mono (Kd.R_s HO557 BK563) (fun _ hk => ⟨hk.1, hk.2⟩)⟩
 have n2_ : Aside0 (Kd.R (Kd.int .i64) 3 ((((((w7.setCell ⟨gb563, 0, none⟩ (.int .i64 t549)).setCell ⟨gb563, 1, none⟩ (.int .i64 t550)).setCell ⟨gb563, 2, none⟩ (.int .i64 t551)).setCell ⟨gb563, 3, none⟩ (.slice Ao11 t552.length co11)).setCell ⟨gb563, 4, none⟩ (.slice Ao12 t555.length co12)).setCell ⟨gb563, 5, none⟩ (.slice Ao13 t558.length co13)) w.heap.size (fun k_ => some k_ ≠ (.slice Ao11 t552.length co11 : Value).ownBlock ∧ some k_ ≠ (.slice Ao12 t555.length co12 : Value).ownBlock) (.slice Ao13 t558.length co13) t558) := ⟨Kd.R_mono (Kd.R_s HO560 BK563) (fun _ hk => ⟨hk.1, hk.2⟩)⟩
 have n3_ : Aside0 (((((((w7.setCell ⟨gb563, 0, none⟩ (.int .i64 t549)).setCell ⟨gb563, 1, none⟩ (.int .i64 t550)).setCell ⟨gb563, 2, none⟩ (.int .i64 t551)).setCell ⟨gb563, 3, none⟩ (.slice Ao11 t552.length co11)).setCell ⟨gb563, 4, none⟩ (.slice Ao12 t555.length co12)).setCell ⟨gb563, 5, none⟩ (.slice Ao13 t558.length co13)).heap[gb547]? = some (.cells #[.int .i64 0, .int .i64 0, .int .i64 0, .slice none 0 0, .slice none 0 0, .slice none 0 0] 28 (0, 0))) := ⟨kf_ BK547 NB547_563⟩
 have n4_ : Aside0 (((((((w7.setCell ⟨gb563, 0, none⟩ (.int .i64 t549)).setCell ⟨gb563, 1, none⟩ (.int .i64 t550)).setCell ⟨gb563, 2, none⟩ (.int .i64 t551)).setCell ⟨gb563, 3, none⟩ (.slice Ao11 t552.length co11)).setCell ⟨gb563, 4, none⟩ (.slice Ao12 t555.length co12)).setCell ⟨gb563, 5, none⟩ (.slice Ao13 t558.length co13)).heap[gb563]? = some (.cells #[.int .i64 t549, .int .i64 t550, .int .i64 t551, .slice Ao11 t552.length co11, .slice Ao12 t555.length co12, .slice Ao13 t558.length co13] 28 (0, 0))) := ⟨kpq_ (kputs BK563 [(0, _), (1, _), (2, _), (3, _), (4, _), (5, _)])⟩
 have n5_ : Aside0 (IsS75 w ((((((w7.setCell ⟨gb563, 0, none⟩ (.int .i64 t549)).setCell ⟨gb563, 1, none⟩ (.int .i64 t550)).setCell ⟨gb563, 2, none⟩ (.int .i64 t551)).setCell ⟨gb563, 3, none⟩ (.slice Ao11 t552.length co11)).setCell ⟨gb563, 4, none⟩ (.slice Ao12 t555.length co12)).setCell ⟨gb563, 5, none⟩ (.slice Ao13 t558.length co13)) gb548 l0 t561 t562) := ⟨IsS75.q HI548⟩
 have n6_ : Aside0 (Below w.heap.size w ((((((w7.setCell ⟨gb563, 0, none⟩ (.int .i64 t549)).setCell ⟨gb563, 1, none⟩ (.int .i64 t550)).setCell ⟨gb563, 2, none⟩ (.int .i64 t551)).setCell ⟨gb563, 3, none⟩ (.slice Ao11 t552.length co11)).setCell ⟨gb563, 4, none⟩ (.slice Ao12 t555.length co12)).setCell ⟨gb563, 5, none⟩ (.slice Ao13 t558.length co13))) := ⟨hbI_ HB (IsS75.ge HI548.out)⟩
 generalize ((((((w7.setCell ⟨gb563, 0, none⟩ (.int .i64 t549)).setCell ⟨gb563, 1, none⟩ (.int .i64 t550)).setCell ⟨gb563, 2, none⟩ (.int .i64 t551)).setCell ⟨gb563, 3, none⟩ (.slice Ao11 t552.length co11)).setCell ⟨gb563, 4, none⟩ (.slice Ao12 t555.length co12)).setCell ⟨gb563, 5, none⟩ (.slice Ao13 t558.length co13)) = w14 at n0_ n1_ n2_ n3_ n4_ n5_ n6_ ⊢
 have HO554 := n0_
 have HO557 := n1_
 have HO560 := n2_
 have BK547 := n3_
 have BK563 := n4_
 have HI548 := n5_
 have HB := n6_
 clear n0_ n1_ n2_ n3_ n4_ n5_ n6_
 replace HO554 := am_ (Kd.R_drew HO554.out)
 replace HO557 := am_ (Kd.R_drew HO557.out)
 replace HO560 := am_ (Kd.R_drew HO560.out)
 replace BK547 := am_ (blk_drew BK547.out)
 replace BK563 := am_ (blk_drew BK563.out)
 replace HI548 := am_ (IsS75.drew HI548.out)
 replace HB := am_ (below_drew1 HB.out)
 refine start_ (n := 8) (S := fun w' => w'.cell? ⟨gb563, 0, none⟩ = some (.int .i64 t549) ∧ w'.cell? ⟨gb563, 1, none⟩ = some (.int .i64 t550) ∧ w'.cell? ⟨gb563, 2, none⟩ = some (.int .i64 t551) ∧ w'.cell? ⟨gb563, 3, none⟩ = some (.slice Ao11 t552.length co11) ∧ w'.cell? ⟨gb563, 4, none⟩ = some (.slice Ao12 t555.length co12) ∧ w'.cell? ⟨gb563, 5, none⟩ = some (.slice Ao13 t558.length co13)) (ds := []) (bb 8 0) (by kernel_rfl) rfl rfl ⟨(blk_cell BK563.out 0).trans rfl, (blk_cell BK563.out 1).trans rfl, (blk_cell BK563.out 2).trans rfl, (blk_cell BK563.out 3).trans rfl, (blk_cell BK563.out 4).trans rfl, (blk_cell BK563.out 5).trans rfl⟩ (fun hHeld => ?_); refine with_tabW spec_DrawSumsOf.tab3 spec_DrawSumsOf.bits3 (fun HT_ HW_ => ?_)
 generalize w14.drew = w15 at HO554 HO557 HO560 BK547 BK563 HI548 HB hHeld ⊢
 refine pm_ HT_ 1 12 8 2 ?_
 refine pm_ HT_ 2 13 8 6 ?_
 refine tk_ HT_ HW_ hHeld 0 (some 11) (bb 8 7) (h := ?_)
 refine tk_ HT_ HW_ hHeld 3 (some 14) (bb 8 15) (h := ?_)
 refine pm_ HT_ 4 15 8 31 ?_
 refine one_ (i := 5) (N := some 16) (bb 8 63) rfl rfl (one_of HT_.out (by kernel_rfl)) (by decide) (fun K hK => ?_)
 refine goes_ Tryz.func70 (by kernel_rfl) rfl #[.pointer (some ⟨gb548, 0, none⟩), .int .i64 (t552.length : Int)] (by rfl) rfl rfl (by (try simp only [List.map_toArray, List.map_cons, List.map_nil]); first | done | rfl | (simp only [List.length_drop, List.length_take]; rfl)) ?_
 with_reducible refine (spec_l1Cur_some.calls k gb548 l0 t561 t562 (t552.length : Int) t564 t567 t568 w _ ?side1 ?side2 A3.out).mono ?_
 (case side1 => exact IsS75.q HI548)
 (case side2 => exact hbI_ HB (IsS75.ge HI548.out))
 rintro e w16 ⟨v565, rfl, ho0, hi, hb, hk⟩
 refine ⟨_, rfl, ?_⟩
 have n0_ := am_ (KeepBut.blk hk (kp_ BK547) NB547_548.out (by simp))
 have n1_ := am_ (Kd.R_mono (Kd.R_told (Kd.R_oldK (IsS75.apart (show IsS75 w _ gb548 l0 t561 t562 from IsS75.q HI548) (Kd.R_p HO554) (by decide)) hk) (Kd.R_base ho0)) (fun _ h_ => h_.1))
 have n2_ := am_ (Kd.R_mono (Kd.R_told (Kd.R_oldK (IsS75.apart (show IsS75 w _ gb548 l0 t561 t562 from IsS75.q HI548) (Kd.R_p HO557) (by decide)) hk) (Kd.R_base ho0)) (fun _ h_ => h_.1))
 have n3_ := am_ (Kd.R_mono (Kd.R_told (Kd.R_oldK (IsS75.apart (show IsS75 w _ gb548 l0 t561 t562 from IsS75.q HI548) (Kd.R_p HO560) (by decide)) hk) (Kd.R_base ho0)) (fun _ h_ => h_.1))
 have n4_ := am_ (KeepBut.blk hk (kp_ BK563) NB563_548.out (by simp))
 have n5_ := am_ (Kd.R_lower (Kd.R_nw (Kd.R_nw (Kd.R_nw ho0 HO554) HO557) HO560) (below_size (hbI_ HB (IsS75.ge HI548.out))))
 have n6_ := am_ (hb)
 have n7_ := am_ (hi)
 clear BK547
 clear HO554
 clear HO557
 clear HO560
 clear BK563
 clear HB
 clear HI548
 have BK547 := n0_
 have HO554 := n1_
 have HO557 := n2_
 have HO560 := n3_
 have BK563 := n4_
 have HO566 := n5_
 have HB := n6_
 have HI548 := n7_
 clear n0_ n1_ n2_ n3_ n4_ n5_ n6_ n7_
 refine hK.out _ _ ⟨(blk_cell BK563.out 0).trans rfl, (blk_cell BK563.out 1).trans rfl, (blk_cell BK563.out 2).trans rfl, (blk_cell BK563.out 3).trans rfl, (blk_cell BK563.out 4).trans rfl, (blk_cell BK563.out 5).trans rfl⟩ (fun hHeld => ?_)
 clear hK K
 refine nm_ (some 16) (h := ?_)
 refine one_ (i := 6) (N := none) (bb 8 127) rfl rfl (one_of HT_.out (by kernel_rfl)) (by decide) (fun K hK => ?_)
 have hs17 : w16.cell? ⟨gb547, 0, none⟩ = some (.int .i64 0) := (blk_cell BK547.out 0).trans rfl
 have hfs17 := blk_frozen BK547.out 0
 have hns17_1 := NB563_547.out
 have hms17_1 := NB547_563.out
 have hs18 : w16.cell? ⟨gb547, 1, none⟩ = some (.int .i64 0) := (blk_cell BK547.out 1).trans rfl
 have hfs18 := blk_frozen BK547.out 1
 have hns18_1 := NB563_547.out
 have hms18_1 := NB547_563.out
 have hs19 : w16.cell? ⟨gb547, 2, none⟩ = some (.int .i64 0) := (blk_cell BK547.out 2).trans rfl
 have hfs19 := blk_frozen BK547.out 2
 have hns19_1 := NB563_547.out
 have hms19_1 := NB547_563.out
 have hs20 : w16.cell? ⟨gb547, 3, none⟩ = some (.slice none 0 0) := (blk_cell BK547.out 3).trans rfl
 have hfs20 := blk_frozen BK547.out 3
 have hns20_1 := NB563_547.out
 have hms20_1 := NB547_563.out
 have hs21 : w16.cell? ⟨gb547, 4, none⟩ = some (.slice none 0 0) := (blk_cell BK547.out 4).trans rfl
 have hfs21 := blk_frozen BK547.out 4
 have hns21_1 := NB563_547.out
 have hms21_1 := NB547_563.out
 have hs22 : w16.cell? ⟨gb547, 5, none⟩ = some (.slice none 0 0) := (blk_cell BK547.out 5).trans rfl
 have hfs22 := blk_frozen BK547.out 5
 have hns22_1 := NB563_547.out
 have hms22_1 := NB547_563.out
 refine skip_ (w1 := ?_) (by rfl) rfl ?_ ?_
 rotate_left
 ·go_simp
  rfl
 refine hK.out _ _ ⟨((cell_far (p := ⟨gb547, _, none⟩) NB563_547.out _).trans (((cell_far (p := ⟨gb547, _, none⟩) NB563_547.out _).trans (((cell_far (p := ⟨gb547, _, none⟩) NB563_547.out _).trans (((cell_far (p := ⟨gb547, _, none⟩) NB563_547.out _).trans (((cell_far (p := ⟨gb547, _, none⟩) NB563_547.out _).trans (((cell_far (p := ⟨gb547, _, none⟩) NB563_547.out _).trans (hHeld.1)))))))))))), ((cell_far (p := ⟨gb547, _, none⟩) NB563_547.out _).trans (((cell_far (p := ⟨gb547, _, none⟩) NB563_547.out _).trans (((cell_far (p := ⟨gb547, _, none⟩) NB563_547.out _).trans (((cell_far (p := ⟨gb547, _, none⟩) NB563_547.out _).trans (((cell_far (p := ⟨gb547, _, none⟩) NB563_547.out _).trans (((cell_far (p := ⟨gb547, _, none⟩) NB563_547.out _).trans (hHeld.2.1)))))))))))), ((cell_far (p := ⟨gb547, _, none⟩) NB563_547.out _).trans (((cell_far (p := ⟨gb547, _, none⟩) NB563_547.out _).trans (((cell_far (p := ⟨gb547, _, none⟩) NB563_547.out _).trans (((cell_far (p := ⟨gb547, _, none⟩) NB563_547.out _).trans (((cell_far (p := ⟨gb547, _, none⟩) NB563_547.out _).trans (((cell_far (p := ⟨gb547, _, none⟩) NB563_547.out _).trans (hHeld.2.2.1)))))))))))), ((cell_far (p := ⟨gb547, _, none⟩) NB563_547.out _).trans (((cell_far (p := ⟨gb547, _, none⟩) NB563_547.out _).trans (((cell_far (p := ⟨gb547, _, none⟩) NB563_547.out _).trans (((cell_far (p := ⟨gb547, _, none⟩) NB563_547.out _).trans (((cell_far (p := ⟨gb547, _, none⟩) NB563_547.out _).trans (((cell_far (p := ⟨gb547, _, none⟩) NB563_547.out _).trans (hHeld.2.2.2.1)))))))))))), ((cell_far (p := ⟨gb547, _, none⟩) NB563_547.out _).trans (((cell_far (p := ⟨gb547, _, none⟩) NB563_547.out _).trans (((cell_far (p := ⟨gb547, _, none⟩) NB563_547.out _).trans (((cell_far (p := ⟨gb547, _, none⟩) NB563_547.out _).trans (((cell_far (p := ⟨gb547, _, none⟩) NB563_547.out _).trans (((cell_far (p := ⟨gb547, _, none⟩) NB563_547.out _).trans (hHeld.2.2.2.2.1)))))))))))), ((cell_far (p := ⟨gb547, _, none⟩) NB563_547.out _).trans (((cell_far (p := ⟨gb547, _, none⟩) NB563_547.out _).trans (((cell_far (p := ⟨gb547, _, none⟩) NB563_547.out _).trans (((cell_far (p := ⟨gb547, _, none⟩) NB563_547.out _).trans (((cell_far (p := ⟨gb547, _, none⟩) NB563_547.out _).trans (((cell_far (p := ⟨gb547, _, none⟩) NB563_547.out _).trans (hHeld.2.2.2.2.2))))))))))))⟩ (fun hHeld => ?_)
 clear hK K
 refine pm_ HT_ 7 3 8 255 ?_
 refine done_ (done_of HT_.out (by kernel_rfl)) ?_
 try go_wp2
 refine bodyPost_ret (results_ct rfl _ _ gb547 28 #[.int .i64 t549, .int .i64 t550, .int .i64 t551, .slice Ao11 t552.length co11, .slice Ao12 t555.length co12, .slice Ao13 t558.length co13] (0, 0) _ rfl (kpq_ (kputs BK547 [(0, _), (1, _), (2, _), (3, _), (4, _), (5, _)])) Tryz.underlying28 rfl (by kernel_rfl)) rfl ?_
 exact ⟨_, _, _, _, se_, Kd.R_mono (Kd.R_s HO554 BK547) (fun _ hk => ⟨hk.1.1, ⟨hk.1.2, hk.2⟩⟩), Kd.R_mono (Kd.R_s HO557 BK547) (fun _ hk => ⟨hk.1.1, ⟨hk.1.2, hk.2⟩⟩), Kd.R_mono (Kd.R_s HO560 BK547) (fun _ hk => ⟨hk.1.1, ⟨hk.1.2, hk.2⟩⟩), Kd.R_mono (Kd.R_s HO566 BK547) (fun _ hk => ⟨hk.1.1.2, ⟨hk.1.2, hk.2⟩⟩), hbI_ HB (IsS75.ge HI548.out)⟩

/-! ### spec_DrawEmptyBlocks: function 21 -/
def spec_DrawEmptyBlocks.f (k : Nat) (l0 : List Int) : Option (Int × Int × Int × List Int × List Int × List Int × List Int) := (spec_DrawSumsOf.f k l0).bind fun bt570 => (some (bt570.1, bt570.2.1, bt570.2.2.1, bt570.2.2.2.1, bt570.2.2.2.2.1, bt570.2.2.2.2.2.1, bt570.2.2.2.2.2.2))
theorem spec_DrawEmptyBlocks.calls (k : Nat) (A0 : Option Addr) (c0 : Nat) (l0 : List Int) (r1 : Int) (r2 : Int) (r3 : Int) (r4 : List Int) (r5 : List Int) (r6 : List Int) (r7 : List Int) (w : World) (hr0 : Kd.C (Kd.int .u8) w A0 l0.length l0) (hc0 : l0.length ≤ c0) (h : spec_DrawEmptyBlocks.f k l0 = some (r1, r2, r3, r4, r5, r6, r7)) :
  Calls Tryz.prog 21 #[.slice A0 l0.length c0] w fun e w' => ∃ v3_ v4_ v5_ v6_ : Value, e = .returned (.tuple #[.agg #[.int .i64 r1, .int .i64 r2, .int .i64 r3, v3_, v4_, v5_], v6_]) ∧ Kd.R (Kd.int .i64) 3 w' w.heap.size (fun k_ => some k_ ≠ (v4_ : Value).ownBlock ∧ some k_ ≠ (v5_ : Value).ownBlock ∧ some k_ ≠ (v6_ : Value).ownBlock) v3_ r4 ∧ Kd.R (Kd.int .i64) 3 w' w.heap.size (fun k_ => some k_ ≠ (v3_ : Value).ownBlock ∧ some k_ ≠ (v5_ : Value).ownBlock ∧ some k_ ≠ (v6_ : Value).ownBlock) v4_ r5 ∧ Kd.R (Kd.int .i64) 3 w' w.heap.size (fun k_ => some k_ ≠ (v3_ : Value).ownBlock ∧ some k_ ≠ (v4_ : Value).ownBlock ∧ some k_ ≠ (v6_ : Value).ownBlock) v5_ r6 ∧ Kd.R (Kd.int .i64) 3 w' w.heap.size (fun k_ => some k_ ≠ (v3_ : Value).ownBlock ∧ some k_ ≠ (v4_ : Value).ownBlock ∧ some k_ ≠ (v5_ : Value).ownBlock) v6_ r7 ∧ Below w.heap.size w w' := by
 have hu28 := Tryz.underlying28
 have HR0 := am_ hr0
 have HC0 := am_ hc0
 clear hr0 hc0
 have HB := am_ (Below.refl w.heap.size w)
 have H := h
 unfold spec_DrawEmptyBlocks.f at H
 clear h
 revert H; refine bn_ ?_; rintro ⟨t570, t571, t572, t573, t576, t579, t582⟩ A2 H; try dsimp only at H
 simp only [Option.some.injEq, Prod.mk.injEq] at H
 obtain ⟨rfl, rfl, rfl, rfl, rfl, rfl, rfl⟩ := H
 go_enter Tryz.func21, Tryz.ntmps21
 go_wp2_with (first | ((with_reducible refine gate_dst (N := 2) rfl ?_); refine bv_ 2 (cs := #[.int .i64 0, .int .i64 0, .int .i64 0, .slice none 0 0, .slice none 0 0, .slice none 0 0]) (t := 28) ?_; intro gb569 hg w3 hbox hb; have BK569 := am_ (hbox); have GW569 := gs_ hg HB; have GE569 := gs_ hg HB; replace HB := hbs_ HB hb; clear hb hbox hg) | ((with_reducible refine gk_ 45 ?_); refine gq_ 5 Tryz.func45 #[.slice A0 l0.length c0] ?_; (with_reducible refine (spec_DrawSumsOf.calls k _ _ l0 t570 t571 t572 t573 t576 t579 t582 _ ?_ ?_ A2.out).mono ?_); exact Kd.C_w HR0 HB; exact HC0.out; rintro e w4 ⟨v574, v577, v580, v583, rfl, ho0, ho1, ho2, ho3, hb⟩; refine ⟨_, rfl, ?_⟩; have HO575 := Kd.R_lo ho0 HB; have HO578 := Kd.R_lo ho1 HB; have HO581 := Kd.R_lo ho2 HB; have HO584 := Kd.R_lo ho3 HB; replace BK569 := kb_ BK569 hb; replace HB := hbs_ HB hb; obtain ⟨hcz5_0, hcz5_1, hcz5_2, hcz5_3, hcz5_4, hcz5_5, hfz5_0, hfz5_1, hfz5_2, hfz5_3, hfz5_4, hfz5_5⟩ := bx6 BK569; obtain ⟨Ao6, co6, eo6⟩ := Kd.R_slice HO575.out; subst eo6; obtain ⟨Ao7, co7, eo7⟩ := Kd.R_slice HO578.out; subst eo7; obtain ⟨Ao8, co8, eo8⟩ := Kd.R_slice HO581.out; subst eo8))
 refine bodyPost_ret (results_ct rfl _ _ gb569 28 #[.int .i64 t570, .int .i64 t571, .int .i64 t572, .slice Ao6 t573.length co6, .slice Ao7 t576.length co7, .slice Ao8 t579.length co8] (0, 0) _ rfl (kpq_ (kputs BK569 [(0, _), (1, _), (2, _), (3, _), (4, _), (5, _)])) Tryz.underlying28 rfl (by kernel_rfl)) rfl ?_
 exact ⟨_, _, _, _, se_, Kd.R_mono (Kd.R_s HO575 BK569) (fun _ hk => ⟨hk.1, ⟨hk.2.1, hk.2.2⟩⟩), Kd.R_mono (Kd.R_s HO578 BK569) (fun _ hk => ⟨hk.1, ⟨hk.2.1, hk.2.2⟩⟩), Kd.R_mono (Kd.R_s HO581 BK569) (fun _ hk => ⟨hk.1, ⟨hk.2.1, hk.2.2⟩⟩), Kd.R_mono (Kd.R_s HO584 BK569) (fun _ hk => ⟨hk.1, ⟨hk.2.1, hk.2.2⟩⟩), hb_ HB⟩

/-! ### impl_areBlocks: function 46 -/
def impl_areBlocks.l0 : Nat → List Int → Int → List Int → Int → Int → Option (Bool)
 | 0, _, _, _, _, _ => none
 | k + 1, x0, x1, x7, x8, x9 => if x9 < x8 then (if 0 ≤ x9 then (if x9 < (x7.length : Int) then (if (rd x7 x9) < 0 then (some false) else (if (rd x7 x9) ≥ x1 then (some false) else (if x9 > 0 then (if 0 ≤ (wrap64 (x9 - 1)) then (if (wrap64 (x9 - 1)) < (x0.length : Int) then (if (rd x7 x9) ≤ (rd x0 (wrap64 (x9 - 1))) then (some false) else (impl_areBlocks.l0 k x0 x1 x7 x8 (wrap64 (x9 + 1)))) else (none)) else (none)) else (impl_areBlocks.l0 k x0 x1 x7 x8 (wrap64 (x9 + 1)))))) else (none)) else (none)) else (some true)
def impl_areBlocks.f (k : Nat) (l0 : List Int) (a1 : Int) : Option (Bool) := impl_areBlocks.l0 k l0 a1 l0 (l0.length : Int) 0
theorem impl_areBlocks.calls (k : Nat) (A0 : Option Addr) (c0 : Nat) (l0 : List Int) (a1 : Int) (r : Bool) (w : World) (hr0 : Kd.C (Kd.int .i64) w A0 l0.length l0) (hc0 : l0.length ≤ c0) (h : impl_areBlocks.f k l0 a1 = some r) :
  Calls Tryz.prog 46 #[.slice A0 l0.length c0, .int .i64 a1] w fun e w' => e = .returned (.bool r) ∧ Drawn0 w w' := by
 have HR0 := am_ hr0
 have HC0 := am_ hc0
 clear hr0 hc0
 have H := h
 unfold impl_areBlocks.f at H
 clear h
 have H' := am_ H
 clear H
 go_enter Tryz.func46, Tryz.ntmps46
 go_wp2
 go_loopg [9] k (fun kq v9 w' => ∃ (x9_1 : Int), v9 = .int .i64 x9_1 ∧ Aside0 (impl_areBlocks.l0 kq l0 a1 l0 (l0.length : Int) x9_1 = some r) ∧ Aside0 (kq ≤ k) ∧ Drawn0 w w')
 case atStart => exact ⟨(0), sr_, H', ⟨Nat.le_refl _⟩, by repeat (first | exact Drawn0.refl _ | apply Drawn0.step)⟩
 clear H'
 obtain ⟨x9_1, rfl, HA, HK1, ⟨m1, rfl⟩⟩ := hrel
 cases gk with
 | zero => exact absurd HA.out (by simp [impl_areBlocks.l0])
 | succ k1 => ?_
 have H := HA.out
 clear HA
 simp only [impl_areBlocks.l0] at H
 by_cases c3 : x9_1 < (l0.length : Int)
 case neg => rw [if_neg c3] at H; have c3b0 := decide_eq_false c3; clear c3; obtain rfl := Option.some.inj H; go_wp2; go_ret; (exact ⟨by first | rfl | (simp; done) | (simp [*]; done), by repeat (first | exact Drawn0.refl _ | apply Drawn0.step)⟩)
 rw [if_pos c3] at H
 have c3b0 := decide_eq_true c3
 clear c3
 revert H; refine pd_ fun c4b0 H => ?_
 revert H; refine pd_ fun c5b0 H => ?_
 by_cases c6 : (rd l0 x9_1) < 0
 ·rw [if_pos c6] at H
  have c6b0 := decide_eq_true c6
  clear c6
  obtain rfl := Option.some.inj H
  obtain ⟨ad585, e585, hx585_0, p585, q585⟩ := ai_ HR0.out x9_1
  cases e585
  go_wp2
  go_ret
  exact ⟨by first | rfl | (simp; done) | (simp [*]; done), by repeat (first | exact Drawn0.refl _ | apply Drawn0.step)⟩
 rw [if_neg c6] at H
 have c6b0 := decide_eq_false c6
 clear c6
 by_cases c7 : (rd l0 x9_1) ≥ a1
 ·rw [if_pos c7] at H
  have c7b0 : decide (a1 ≤ (rd l0 x9_1)) = true := decide_eq_true c7
  clear c7
  obtain rfl := Option.some.inj H
  obtain ⟨ad585, e585, hx585_0, p585, q585⟩ := ai_ HR0.out x9_1
  cases e585
  go_wp2
  go_ret
  exact ⟨by first | rfl | (simp; done) | (simp [*]; done), by repeat (first | exact Drawn0.refl _ | apply Drawn0.step)⟩
 rw [if_neg c7] at H
 have c7b0 : decide (a1 ≤ (rd l0 x9_1)) = false := decide_eq_false c7
 clear c7
 by_cases c8 : x9_1 > 0
 ·rw [if_pos c8] at H
  have c8b0 : decide (0 < x9_1) = true := decide_eq_true c8
  clear c8
  obtain ⟨ji9, hji9⟩ : ∃ j_ : Int, (wrap64 (x9_1 - 1)) = j_ := ⟨_, rfl⟩
  first | rw [hji9] at H | simp only [hji9] at H
  have hji9w : (IntKind.i64.wrap (x9_1 - 1)) = ji9 := (i64_w _).trans hji9
  revert H; refine pd_ fun c10b0 H => ?_
  revert H; refine pd_ fun c11b0 H => ?_
  by_cases c12 : (rd l0 x9_1) ≤ (rd l0 (ji9))
  ·rw [if_pos c12] at H
   have c12b0 := decide_eq_true c12
   clear c12
   obtain rfl := Option.some.inj H
   obtain ⟨ad585, e585, hx585_0, p585, q585⟩ := ai_ HR0.out x9_1
   cases e585
   obtain ⟨ad586, e586, hx586_0, p586, q586⟩ := ai_ HR0.out (ji9)
   obtain rfl : ad585 = ad586 := (by injection e586)
   go_wp2
   go_ret
   exact ⟨by first | rfl | (simp; done) | (simp only [← hji9] <;> (first | rfl | simp)) | (simp [*]; done), by repeat (first | exact Drawn0.refl _ | apply Drawn0.step)⟩
  rw [if_neg c12] at H
  have c12b0 := decide_eq_false c12
  clear c12
  have H' := am_ H
  clear H
  obtain ⟨ad585, e585, hx585_0, p585, q585⟩ := ai_ HR0.out x9_1
  cases e585
  obtain ⟨ad586, e586, hx586_0, p586, q586⟩ := ai_ HR0.out (ji9)
  obtain rfl : ad585 = ad586 := (by injection e586)
  go_wp2
  go_roundg k1
  case measure => have := HK1.out; omega
  case rel => exact ⟨(wrap64 (x9_1 + 1)), sr_, H', ⟨by have := HK1.out; omega⟩, by repeat (first | exact Drawn0.refl _ | apply Drawn0.step)⟩
 rw [if_neg c8] at H
 have c8b0 : decide (0 < x9_1) = false := decide_eq_false c8
 clear c8
 have H' := am_ H
 clear H
 obtain ⟨ad585, e585, hx585_0, p585, q585⟩ := ai_ HR0.out x9_1
 cases e585
 go_wp2
 go_roundg k1
 case measure => have := HK1.out; omega
 case rel => exact ⟨(wrap64 (x9_1 + 1)), sr_, H', ⟨by have := HK1.out; omega⟩, by repeat (first | exact Drawn0.refl _ | apply Drawn0.step)⟩

/-! ### impl_copyModel: function 47 -/
def impl_copyModel.f (a0_0 : Int) (a0_1 : Int) (a0_2 : Int) (l0_3 : List Int) (l0_4 : List Int) (l0_5 : List Int) : Option (Int × Int × Int × List Int × List Int × List Int) := (some (([] : List Int) : List Int)).bind fun y589 => (if y589.length + l0_3.length < 17592186044416 then ((some (([] : List Int) : List Int)).bind fun y595 => (if y595.length + l0_4.length < 17592186044416 then ((some (([] : List Int) : List Int)).bind fun y601 => (if y601.length + l0_5.length < 17592186044416 then (some (a0_0, a0_1, a0_2, (y589 ++ l0_3), (y595 ++ l0_4), (y601 ++ l0_5))) else (none))) else (none))) else (none))
theorem impl_copyModel.calls (a0_0 : Int) (a0_1 : Int) (a0_2 : Int) (A0_3 : Option Addr) (c0_3 : Nat) (l0_3 : List Int) (A0_4 : Option Addr) (c0_4 : Nat) (l0_4 : List Int) (A0_5 : Option Addr) (c0_5 : Nat) (l0_5 : List Int) (r1 : Int) (r2 : Int) (r3 : Int) (r4 : List Int) (r5 : List Int) (r6 : List Int) (w : World) (hr0_3 : Kd.C (Kd.int .i64) w A0_3 l0_3.length l0_3) (hc0_3 : l0_3.length ≤ c0_3) (hr0_4 : Kd.C (Kd.int .i64) w A0_4 l0_4.length l0_4) (hc0_4 : l0_4.length ≤ c0_4) (hr0_5 : Kd.C (Kd.int .i64) w A0_5 l0_5.length l0_5) (hc0_5 : l0_5.length ≤ c0_5) (h : impl_copyModel.f a0_0 a0_1 a0_2 l0_3 l0_4 l0_5 = some (r1, r2, r3, r4, r5, r6)) :
  Calls Tryz.prog 47 #[.agg #[.int .i64 a0_0, .int .i64 a0_1, .int .i64 a0_2, .slice A0_3 l0_3.length c0_3, .slice A0_4 l0_4.length c0_4, .slice A0_5 l0_5.length c0_5]] w fun e w' => ∃ v3_ v4_ v5_ : Value, e = .returned (.agg #[.int .i64 r1, .int .i64 r2, .int .i64 r3, v3_, v4_, v5_]) ∧ Kd.R (Kd.int .i64) 3 w' w.heap.size (fun k_ => some k_ ≠ (v4_ : Value).ownBlock ∧ some k_ ≠ (v5_ : Value).ownBlock) v3_ r4 ∧ Kd.R (Kd.int .i64) 3 w' w.heap.size (fun k_ => some k_ ≠ (v3_ : Value).ownBlock ∧ some k_ ≠ (v5_ : Value).ownBlock) v4_ r5 ∧ Kd.R (Kd.int .i64) 3 w' w.heap.size (fun k_ => some k_ ≠ (v3_ : Value).ownBlock ∧ some k_ ≠ (v4_ : Value).ownBlock) v5_ r6 ∧ Below w.heap.size w w' := by
 have hu28 := Tryz.underlying28
 have HR0_3 := am_ hr0_3
 have HC0_3 := am_ hc0_3
 clear hr0_3 hc0_3
 have HR0_4 := am_ hr0_4
 have HC0_4 := am_ hc0_4
 clear hr0_4 hc0_4
 have HR0_5 := am_ hr0_5
 have HC0_5 := am_ hc0_5
 clear hr0_5 hc0_5
 have HB := am_ (Below.refl w.heap.size w)
 have H := h
 unfold impl_copyModel.f at H
 clear h
 obtain ⟨y589, hy589⟩ : ∃ y_ : List Int, y_ = (([] : List Int)) := ⟨_, rfl⟩
 replace H : (if y589.length + l0_3.length < 17592186044416 then ((some (([] : List Int) : List Int)).bind fun y595 => (if y595.length + l0_4.length < 17592186044416 then ((some (([] : List Int) : List Int)).bind fun y601 => (if y601.length + l0_5.length < 17592186044416 then (some (a0_0, a0_1, a0_2, (y589 ++ l0_3), (y595 ++ l0_4), (y601 ++ l0_5))) else (none))) else (none))) else (none)) = some (r1, r2, r3, r4, r5, r6) := by first | (rw [hy589]; with_reducible exact H) | (have H2_ := (Option.bind_some _ _).symm.trans H; rw [hy589]; with_reducible exact H2_) | (have H2_ := (Option.bind_some _ _).symm.trans H; with_reducible exact H2_) | with_reducible exact H | (rw [hy589]; exact H) | exact H
 have Ny589 := am_ hy589
 clear hy589
 revert H; refine pf_ fun c2 H => ?_
 have LMc2 := am_ c2
 clear c2
 obtain ⟨y592, hy592⟩ : ∃ y_ : List Int, y_ = (y589 ++ l0_3) := ⟨_, rfl⟩
 (try with_reducible replace H := (Option.bind_some _ _).symm.trans H); (try dsimp only at H); (try rw [← hy592] at H)
 have Ny592 := am_ hy592
 clear hy592
 obtain ⟨y595, hy595⟩ : ∃ y_ : List Int, y_ = (([] : List Int)) := ⟨_, rfl⟩
 replace H : (if y595.length + l0_4.length < 17592186044416 then ((some (([] : List Int) : List Int)).bind fun y601 => (if y601.length + l0_5.length < 17592186044416 then (some (a0_0, a0_1, a0_2, y592, (y595 ++ l0_4), (y601 ++ l0_5))) else (none))) else (none)) = some (r1, r2, r3, r4, r5, r6) := by first | (rw [hy595]; with_reducible exact H) | (have H2_ := (Option.bind_some _ _).symm.trans H; rw [hy595]; with_reducible exact H2_) | (have H2_ := (Option.bind_some _ _).symm.trans H; with_reducible exact H2_) | with_reducible exact H | (rw [hy595]; exact H) | exact H
 have Ny595 := am_ hy595
 clear hy595
 revert H; refine pf_ fun c3 H => ?_
 have LMc3 := am_ c3
 clear c3
 obtain ⟨y598, hy598⟩ : ∃ y_ : List Int, y_ = (y595 ++ l0_4) := ⟨_, rfl⟩
 (try with_reducible replace H := (Option.bind_some _ _).symm.trans H); (try dsimp only at H); (try rw [← hy598] at H)
 have Ny598 := am_ hy598
 clear hy598
 obtain ⟨y601, hy601⟩ : ∃ y_ : List Int, y_ = (([] : List Int)) := ⟨_, rfl⟩
 replace H : (if y601.length + l0_5.length < 17592186044416 then (some (a0_0, a0_1, a0_2, y592, y598, (y601 ++ l0_5))) else (none)) = some (r1, r2, r3, r4, r5, r6) := by first | (rw [hy601]; with_reducible exact H) | (have H2_ := (Option.bind_some _ _).symm.trans H; rw [hy601]; with_reducible exact H2_) | (have H2_ := (Option.bind_some _ _).symm.trans H; with_reducible exact H2_) | with_reducible exact H | (rw [hy601]; exact H) | exact H
 have Ny601 := am_ hy601
 clear hy601
 revert H; refine pf_ fun c4 H => ?_
 have LMc4 := am_ c4
 clear c4
 obtain ⟨y604, hy604⟩ : ∃ y_ : List Int, y_ = (y601 ++ l0_5) := ⟨_, rfl⟩
 (try with_reducible replace H := (Option.bind_some _ _).symm.trans H); (try dsimp only at H); (try rw [← hy604] at H)
 have Ny604 := am_ hy604
 clear hy604
 simp only [Option.some.injEq, Prod.mk.injEq] at H
 obtain ⟨rfl, rfl, rfl, rfl, rfl, rfl⟩ := H
 go_enter Tryz.func47, Tryz.ntmps47
 go_wp2_with (first | ((with_reducible refine gate_dst (N := 1) rfl ?_); refine bv_ 1 (cs := #[.int .i64 a0_0, .int .i64 a0_1, .int .i64 a0_2, .slice A0_3 l0_3.length c0_3, .slice A0_4 l0_4.length c0_4, .slice A0_5 l0_5.length c0_5]) (t := 28) ?_; intro gb587 hg w5 hbox hb; have BK587 := am_ (hbox); have GW587 := gs_ hg HB; have GE587 := gs_ hg HB; replace HB := hbs_ HB hb; clear hb hbox hg) | ((with_reducible refine gate_dst (N := 2) rfl ?_); refine bv_ 2 (cs := #[.int .i64 0, .int .i64 0, .int .i64 0, .slice none 0 0, .slice none 0 0, .slice none 0 0]) (t := 28) ?_; intro gb588 hg w6 hbox hb; have BK588 := am_ (hbox); have GW588 := gs_ hg HB; have GE588 := gs_ hg HB; have NB587_588 := nl_ hg BK587; have NB588_587 := ng_ hg BK587; replace BK587 := kb_ BK587 hb; replace HB := hbs_ HB hb; clear hb hbox hg) | ((with_reducible refine gate_dst (N := 3) rfl ?_); refine Kd.R_lit (Kd.int .i64) _ 3 ?hg (N := 3) ?hd (xs := ([] : List Int)) (inner := []) (ok := fun _ => True) (okp := fun _ => True) ?hr ?hp (fun _ hk => hk) trivial (Below.refl _ _) (Nat.le_refl _) (by simp) ?_; (case hd => rfl); (case hg => rfl); (case hr => first | (go_simp; done) | (go_simp; rfl)); (case hp => exact (Reps.none _ _)); intro v590 w7 ho8 hb hg_ hnew_; clear hg_ hnew_; (first | rw [← Ny589.out] at ho8 | (simp only [Int.reduceToNat] at ho8; rw [← Ny589.out] at ho8)); have HO591 := Kd.R_lo ho8 HB; replace BK587 := kb_ BK587 hb; replace BK588 := kb_ BK588 hb; replace HB := hbs_ HB hb; clear hb ho8; have := NB587_588.out; have := NB588_587.out; obtain ⟨hcz10_0, hcz10_1, hcz10_2, hcz10_3, hcz10_4, hcz10_5, hfz10_0, hfz10_1, hfz10_2, hfz10_3, hfz10_4, hfz10_5⟩ := bx6 BK587) | ((with_reducible refine gate_builtin (b := .append) (xs := #[.tmp 3, .tmp 5]) rfl ?_); at_builtin; refine Kd.R_append_rows (Kd.int .i64) (w0 := w) w.heap.size rfl (.tmp 3) (.tmp 5) 26 3 (.int .i64 0) 8 rfl Tryz.underlying26 info3 rfl (by decide) (by omega) v590 y589 l0_3 _ _ _ (fun _ => True) (fun _ => False) rfl rfl ?aO ?aR (fun _ _ h => h) (fun _ h => h.elim) ?aF ?aB ?aS ?aL ?_; (case aR => exact Kd.C_w HR0_3 HB); (case aB => exact (hb_ HB)); (case aF => exact (fun _ _ => trivial)); (case aO => exact (Kd.R_p HO591)); (case aS => exact (below_size (hb_ HB))); (case aL => have := LMc2.out; omega); intro v593 w11 ho hb hg hat; rw [← Ny592.out] at ho; have HO594 := am_ (ho); replace BK587 := am_ (blk_grown (kp_ BK587) hg (Kd.R_ne HO591.out BK587.out (by decide))); replace BK588 := am_ (blk_grown (kp_ BK588) hg (Kd.R_ne HO591.out BK588.out (by decide))); replace HB := am_ (hb); clear HO591; clear ho hb hg hat; obtain ⟨Ao12, co12, eo12⟩ := Kd.R_slice HO594.out; subst eo12; obtain ⟨hcz13_0, hcz13_1, hcz13_2, hcz13_3, hcz13_4, hcz13_5, hfz13_0, hfz13_1, hfz13_2, hfz13_3, hfz13_4, hfz13_5⟩ := bx6 BK587) | ((with_reducible refine gate_dst (N := 8) rfl ?_); refine Kd.R_lit (Kd.int .i64) _ 3 ?hg (N := 8) ?hd (xs := ([] : List Int)) (inner := []) (ok := fun _ => True) (okp := fun _ => True) ?hr ?hp (fun _ hk => hk) trivial (Below.refl _ _) (Nat.le_refl _) (by simp) ?_; (case hd => rfl); (case hg => rfl); (case hr => first | (go_simp; done) | (go_simp; rfl)); (case hp => exact (Reps.none _ _)); intro v596 w14 ho15 hb hg_ hnew_; clear hg_ hnew_; (first | rw [← Ny595.out] at ho15 | (simp only [Int.reduceToNat] at ho15; rw [← Ny595.out] at ho15)); have HO597 := Kd.R_lo (Kd.R_ns ho15 HO594 BK587) HB; replace HO594 := Kd.R_e1s HO594 BK587 ho15 hb; replace BK588 := kfb_ BK588 NB588_587 hb; replace HB := hbs_ HB hb; replace BK587 := am_ (blk_below (g := gb587) (o := .cells #[.int .i64 a0_0, .int .i64 a0_1, .int .i64 a0_2, .slice Ao12 y592.length co12, .slice A0_4 l0_4.length c0_4, .slice A0_5 l0_5.length c0_5] 28 (0, 0)) (kpq_ (kputs BK587 [(3, _)])) hb); clear hb ho15; obtain ⟨hcz16_0, hcz16_1, hcz16_2, hcz16_3, hcz16_4, hcz16_5, hfz16_0, hfz16_1, hfz16_2, hfz16_3, hfz16_4, hfz16_5⟩ := bx6 BK587) | ((with_reducible refine gate_builtin (b := .append) (xs := #[.tmp 8, .tmp 10]) rfl ?_); at_builtin; refine Kd.R_append_rows (Kd.int .i64) (w0 := w) w.heap.size rfl (.tmp 8) (.tmp 10) 26 3 (.int .i64 0) 8 rfl Tryz.underlying26 info3 rfl (by decide) (by omega) v596 y595 l0_4 _ _ _ (fun k_ => some k_ ≠ (.slice Ao12 y592.length co12 : Value).ownBlock) (fun _ => False) rfl rfl ?aO ?aR (fun _ _ h => h) (fun _ h => h.elim) ?aF ?aB ?aS ?aL ?_; (case aR => exact Kd.C_w HR0_4 HB); (case aB => exact (hb_ HB)); (case aF => exact (fun k_ hk => Kd.fresh' (Kd.R_lt (Kd.R_p HO594)) k_ hk)); (case aO => exact (rm_ (h := HO597.out))); (case aS => exact (below_size (hb_ HB))); (case aL => have := LMc3.out; omega); intro v599 w17 ho hb hg hat; rw [← Ny598.out] at ho; have HO600 := am_ (ho); replace BK587 := am_ (blk_grown (kp_ BK587) hg (Kd.R_ne HO597.out BK587.out (by decide))); replace BK588 := am_ (blk_grown (kp_ BK588) hg (Kd.R_ne HO597.out BK588.out (by decide))); replace HO594 := am_ (Kd.R_after (ok := (fun _ => True)) (Kd.R_p HO594) hg hat); replace HB := am_ (hb); clear HO597; clear ho hb hg hat; obtain ⟨Ao18, co18, eo18⟩ := Kd.R_slice HO600.out; subst eo18; obtain ⟨hcz19_0, hcz19_1, hcz19_2, hcz19_3, hcz19_4, hcz19_5, hfz19_0, hfz19_1, hfz19_2, hfz19_3, hfz19_4, hfz19_5⟩ := bx6 BK587) | ((with_reducible refine gate_dst (N := 13) rfl ?_); refine Kd.R_lit (Kd.int .i64) _ 3 ?hg (N := 13) ?hd (xs := ([] : List Int)) (inner := []) (ok := fun _ => True) (okp := fun _ => True) ?hr ?hp (fun _ hk => hk) trivial (Below.refl _ _) (Nat.le_refl _) (by simp) ?_; (case hd => rfl); (case hg => rfl); (case hr => first | (go_simp; done) | (go_simp; rfl)); (case hp => exact (Reps.none _ _)); intro v602 w20 ho21 hb hg_ hnew_; clear hg_ hnew_; (first | rw [← Ny601.out] at ho21 | (simp only [Int.reduceToNat] at ho21; rw [← Ny601.out] at ho21)); have HO603 := Kd.R_lo (Kd.R_ns (Kd.R_ns ho21 HO594 BK587) HO600 BK587) HB; replace HO594 := Kd.R_e1s HO594 BK587 ho21 hb; replace HO600 := Kd.R_e1s HO600 BK587 ho21 hb; replace BK588 := kfb_ BK588 NB588_587 hb; replace HB := hbs_ HB hb; replace BK587 := am_ (blk_below (g := gb587) (o := .cells #[.int .i64 a0_0, .int .i64 a0_1, .int .i64 a0_2, .slice Ao12 y592.length co12, .slice Ao18 y598.length co18, .slice A0_5 l0_5.length c0_5] 28 (0, 0)) (kpq_ (kputs BK587 [(4, _)])) hb); clear hb ho21; obtain ⟨hcz22_0, hcz22_1, hcz22_2, hcz22_3, hcz22_4, hcz22_5, hfz22_0, hfz22_1, hfz22_2, hfz22_3, hfz22_4, hfz22_5⟩ := bx6 BK587) | ((with_reducible refine gate_builtin (b := .append) (xs := #[.tmp 13, .tmp 15]) rfl ?_); at_builtin; refine Kd.R_append_rows (Kd.int .i64) (w0 := w) w.heap.size rfl (.tmp 13) (.tmp 15) 26 3 (.int .i64 0) 8 rfl Tryz.underlying26 info3 rfl (by decide) (by omega) v602 y601 l0_5 _ _ _ (fun k_ => some k_ ≠ (.slice Ao12 y592.length co12 : Value).ownBlock ∧ some k_ ≠ (.slice Ao18 y598.length co18 : Value).ownBlock) (fun _ => False) rfl rfl ?aO ?aR (fun _ _ h => h) (fun _ h => h.elim) ?aF ?aB ?aS ?aL ?_; (case aR => exact Kd.C_w HR0_5 HB); (case aB => exact (hb_ HB)); (case aF => exact (fun k_ hk => ⟨Kd.fresh' (Kd.R_lt (Kd.R_p HO594)) k_ hk, Kd.fresh' (Kd.R_lt (Kd.R_p HO600)) k_ hk⟩)); (case aO => exact (rm_ (h := HO603.out))); (case aS => exact (below_size (hb_ HB))); (case aL => have := LMc4.out; omega); intro v605 w23 ho hb hg hat; rw [← Ny604.out] at ho; have HO606 := am_ (ho); replace BK587 := am_ (blk_grown (kp_ BK587) hg (Kd.R_ne HO603.out BK587.out (by decide))); replace BK588 := am_ (blk_grown (kp_ BK588) hg (Kd.R_ne HO603.out BK588.out (by decide))); replace HO594 := am_ (Kd.R_after (ok := (fun k_ => some k_ ≠ (.slice Ao18 y598.length co18 : Value).ownBlock)) (rm_ (h := HO594.out)) hg hat); replace HO600 := am_ (Kd.R_after (ok := (fun k_ => some k_ ≠ (.slice Ao12 y592.length co12 : Value).ownBlock)) (Kd.R_p HO600) hg hat); replace HB := am_ (hb); clear HO603; clear ho hb hg hat; obtain ⟨Ao24, co24, eo24⟩ := Kd.R_slice HO606.out; subst eo24; obtain ⟨hcz25_0, hcz25_1, hcz25_2, hcz25_3, hcz25_4, hcz25_5, hfz25_0, hfz25_1, hfz25_2, hfz25_3, hfz25_4, hfz25_5⟩ := bx6 BK587; obtain ⟨hcz26_0, hcz26_1, hcz26_2, hcz26_3, hcz26_4, hcz26_5, hfz26_0, hfz26_1, hfz26_2, hfz26_3, hfz26_4, hfz26_5⟩ := bx6 BK588))
 refine bodyPost_ret (results_cell_row rfl _ _ gb588 28 #[.int .i64 a0_0, .int .i64 a0_1, .int .i64 a0_2, .slice Ao12 y592.length co12, .slice Ao18 y598.length co18, .slice Ao24 y604.length co24] (0, 0) _ rfl (kq_ (h := bp_ (h := bp_ (h := bp_ (h := bp_ (h := bp_ (h := bp_ (h := bf_ (hn := NB588_587) (h := BK588.out))))))))) Tryz.underlying28 rfl (by kernel_rfl)) rfl ?_
 exact ⟨_, _, _, se_, rm_ (h := rf_ (rf_ (rf_ (rf_ (rf_ (rf_ (rf_ (rt_ (rt_ HO594.out BK587) BK588)))))))), rm_ (h := rf_ (rf_ (rf_ (rf_ (rf_ (rf_ (rf_ (rt_ (rt_ HO600.out BK587) BK588)))))))), rm_ (h := rf_ (rf_ (rf_ (rf_ (rf_ (rf_ (rf_ (rt_ (rt_ HO606.out BK587) BK588)))))))), hb_ HB⟩

end Go.Proofs.YthphbkkkbolcnaaGreatDoor.PFnModels
