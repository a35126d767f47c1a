-- Laid for this claim by wip/tools/print2.sh, a changed copy of the kit's print (wip/tools/patch_print.py): not by print.sh.
import Derived.Test.YtihjlepgmppedaaGreatDoorPFnRulesx5
import Derived.Test.YtihjlepgmppedaaGreatDoorVFnRules
namespace Go.Proofs.YtihjlepgmppedaaGreatDoor.PFnRules
open Go.RowKit Go.Proofs.YtihjlepgmppedaaGreatDoorW.PrintWords Go.Proofs.YtihjlepgmppedaaGreatDoorW.PrintLast Go.Proofs.YtihjlepgmppedaaGreatDoorW.PrintMore
set_option linter.unusedVariables false
set_option linter.unusedSimpArgs false

/-! ### spec_l1Cur_anyRule: function 36 -/
mutual
def spec_l1Cur_anyRule.l0 : Nat → List (S73) → Int → List Int → Int → Int → Option ((List (S73)) × Int × Int)
 | 0, _, _, _, _, _ => none
 | k + 1, x3, x5, x1000, x1001, x1002 => if x5 > 0 then (if x3.length + x3.length < 8796093022208 then ((some (x3 ++ x3 : List (S73))).bind fun y275 => (if y275.length < 8796093022208 then (spec_l1Cur_anyRule.l0 k (y275 ++ [(⟨2, 0⟩ : S73)]) (wrap64 (x5 - 1)) x1000 x1001 x1002) else (none))) else (none)) else ((spec_l1Cur_pick.f x1000 x1001 x1002 2).bind fun bt281 => (spec_l1Cur_anyRule.l1 k x3 (wrap64 (39 + (wrap64 (2 * bt281.1)))) x1000 bt281.2.1 bt281.2.2))
def spec_l1Cur_anyRule.l1 : Nat → List (S73) → Int → List Int → Int → Int → Option ((List (S73)) × Int × Int)
 | 0, _, _, _, _, _ => none
 | k + 1, x3, x6, x1000, x1001, x1002 => if (x3.length : Int) < x6 then ((some (([(⟨0, 1⟩ : S73), (⟨3, 0⟩ : S73)] : List (S73)) : List (S73))).bind fun y284 => (if x3.length + y284.length < 8796093022208 then (spec_l1Cur_anyRule.l1 k (x3 ++ y284) x6 x1000 x1001 x1002) else (none))) else (some (x3, x1001, x1002))
def spec_l1Cur_anyRule.l2 : Nat → List (S73) → Int → List Int → Int → Int → Option ((List (S73)) × Int × Int)
 | 0, _, _, _, _, _ => none
 | k + 1, x3, x7, x1000, x1001, x1002 => if x7 > 0 then ((some (([(⟨0, 2⟩ : S73), (⟨2, 0⟩ : S73)] : List (S73)) : List (S73))).bind fun y296 => (if x3.length + y296.length < 8796093022208 then (spec_l1Cur_anyRule.l2 k (x3 ++ y296) (wrap64 (x7 - 1)) x1000 x1001 x1002) else (none))) else (some (x3, x1001, x1002))
def spec_l1Cur_anyRule.l3 : Nat → List (S73) → Int → List Int → Int → Int → Option ((List (S73)) × Int × Int)
 | 0, _, _, _, _, _ => none
 | k + 1, x3, x8, x1000, x1001, x1002 => if x8 > 0 then ((some (([(⟨0, 0⟩ : S73), (⟨0, 0⟩ : S73), (⟨0, 0⟩ : S73), (⟨6, 0⟩ : S73)] : List (S73)) : List (S73))).bind fun y308 => (if x3.length + y308.length < 8796093022208 then (spec_l1Cur_anyRule.l3 k (x3 ++ y308) (wrap64 (x8 - 1)) x1000 x1001 x1002) else (none))) else (spec_l1Cur_anyRule.l4 k x3 x1000 x1001 x1002)
def spec_l1Cur_anyRule.l4 : Nat → List (S73) → List Int → Int → Int → Option ((List (S73)) × Int × Int)
 | 0, _, _, _, _ => none
 | k + 1, x3, x1000, x1001, x1002 => if (x3.length : Int) < 39 then ((some (([(⟨0, 0⟩ : S73), (⟨2, 0⟩ : S73)] : List (S73)) : List (S73))).bind fun y314 => (if x3.length + y314.length < 8796093022208 then (spec_l1Cur_anyRule.l4 k (x3 ++ y314) x1000 x1001 x1002) else (none))) else (some (x3, x1001, x1002))
end
def spec_l1Cur_anyRule.f (k : Nat) (s0_0 : List Int) (s0_1 : Int) (s0_2 : Int) : Option ((List (S73)) × Int × Int) := (spec_l1Cur_rule.f k s0_0 s0_1 s0_2).bind fun bt244 => ((spec_l1Cur_pick.f s0_0 bt244.2.1 bt244.2.2 (bt244.1.length : Int)).bind fun bt249 => ((spec_l1Cur_pick.f s0_0 bt249.2.1 bt249.2.2 30).bind fun bt252 => (if bt252.1 = 0 then ((spec_l1Cur_pick.f s0_0 bt252.2.1 bt252.2.2 11).bind fun bt255 => (if 0 ≤ bt249.1 then (if bt249.1 < (bt244.1.length : Int) then (some ((bt244.1.set (bt249.1 : Int).toNat (⟨wrap64 (bt255.1 - 1), (rd_T73 bt244.1 bt249.1).f1⟩ : S73)), bt255.2.1, bt255.2.2)) else (none)) else (none))) else (if bt252.1 = 1 then ((spec_l1Cur_among.f s0_0 bt252.2.1 bt252.2.2 (([(-1), 0, 1, 4, 5, 1000000, 1000001] : List Int))).bind fun bt262 => (if 0 ≤ bt249.1 then (if bt249.1 < (bt244.1.length : Int) then (some ((bt244.1.set (bt249.1 : Int).toNat (⟨(rd_T73 bt244.1 bt249.1).f0, bt262.1⟩ : S73)), bt262.2.1, bt262.2.2)) else (none)) else (none))) else (if bt252.1 = 2 then (if 0 ≤ bt249.1 then (if bt249.1 ≤ (bt244.1.length : Int) then (some ((bt244.1.take (bt249.1 : Int).toNat), bt252.2.1, bt252.2.2)) else (none)) else (none)) else (if bt252.1 = 3 then (if bt244.1.length < 8796093022208 then (some ((bt244.1 ++ [(⟨0, 1⟩ : S73)]), bt252.2.1, bt252.2.2)) else (none)) else (if bt252.1 = 4 then (spec_l1Cur_anyRule.l0 k (([(⟨0, 1⟩ : S73)] : List (S73))) 4 s0_0 bt252.2.1 bt252.2.2) else (if bt252.1 = 5 then ((spec_l1Cur_pick.f s0_0 bt252.2.1 bt252.2.2 2).bind fun bt293 => (spec_l1Cur_anyRule.l2 k (([(⟨0, 1⟩ : S73)] : List (S73))) (wrap64 (11 + bt293.1)) s0_0 bt293.2.1 bt293.2.2)) else (if bt252.1 = 6 then ((spec_l1Cur_pick.f s0_0 bt252.2.1 bt252.2.2 2).bind fun bt305 => (spec_l1Cur_anyRule.l3 k (([(⟨0, 0⟩ : S73), (⟨0, 0⟩ : S73), (⟨0, 0⟩ : S73), (⟨0, 0⟩ : S73), (⟨7, 0⟩ : S73)] : List (S73))) (wrap64 (8 + bt305.1)) s0_0 bt305.2.1 bt305.2.2)) else (some (bt244.1, bt252.2.1, bt252.2.2)))))))))))
set_option maxHeartbeats 8000000 in
set_option maxRecDepth 100000 in
theorem spec_l1Cur_anyRule.calls (k : Nat) (g : Nat) (s0_0 : List Int) (s0_1 : Int) (s0_2 : Int) (r1 : List (S73)) (r2 : Int) (r3 : Int) (w0 w : World) (hI : IsS48 w0 w g s0_0 s0_1 s0_2) (hB : Below w0.heap.size w0 w) (h : spec_l1Cur_anyRule.f k s0_0 s0_1 s0_2 = some (r1, r2, r3)) :
  Calls Tryz.prog 36 #[.pointer (some ⟨g, 0, none⟩)] w fun e w' => ∃ v0_ : Value, e = .returned (v0_) ∧ Kd.R k73 73 w' w.heap.size (fun _ => True) v0_ r1 ∧ IsS48 w0 w' g s0_0 r2 r3 ∧ Below w0.heap.size w0 w' ∧ KeepBut w w' g none := by
 have hu73 := Tryz.underlying73
 have HI0 := am_ hI
 have HK := am_ (KeepBut.refl w g none)
 have HL := am_ hB.size
 clear hI
 have HW0 := am_ hB.size
 have HB := am_ hB
 clear hB
 have H := h
 unfold spec_l1Cur_anyRule.f at H
 clear h
 revert H; refine bn_ ?_; rintro ⟨t244, t247, t248⟩ A2 H; try dsimp only at H
 revert H; refine bn_ ?_; rintro ⟨t249, t250, t251⟩ A3 H; try dsimp only at H
 revert H; refine bn_ ?_; rintro ⟨t252, t253, t254⟩ A4 H; try dsimp only at H
 by_cases c5 : t252 = 0
 ·rw [if_pos c5] at H
  have c5b0 : (t252 == 0) = true := beq_iff_eq.mpr c5
  have c5b1 : (t252 != 0) = false := bne_eq_false_iff_eq.mpr c5
  clear c5
  revert H; refine bn_ ?_; rintro ⟨t255, t256, t257⟩ A6 H; try dsimp only at H
  revert H; refine pd_ fun c7b0 H => ?_
  revert H; refine pd_ fun c8b0 H => ?_
  obtain ⟨y258, hy258⟩ : ∃ y_ : List (S73), y_ = (t244.set (t249 : Int).toNat (⟨wrap64 (t255 - 1), (rd_T73 t244 t249).f1⟩ : S73)) := ⟨_, rfl⟩
  (try with_reducible replace H := (Option.bind_some _ _).symm.trans H); (try dsimp only at H); (try rw [← hy258] at H)
  have Ny258 := am_ hy258
  clear hy258
  simp only [Option.some.injEq, Prod.mk.injEq] at H
  obtain ⟨rfl, rfl, rfl⟩ := H
  go_enter Tryz.func36, Tryz.ntmps36
  go_wp2_with (first | ((with_reducible refine gk_ 57 ?_); refine gq_ 10 Tryz.func57 #[.pointer (some ⟨g, 0, none⟩)] ?_; (with_reducible refine (spec_l1Cur_rule.calls k g s0_0 s0_1 s0_2 t244 t247 t248 w0 _ ?_ ?_ A2.out).mono ?_); exact IsS48.q HI0; exact hbI_ HB (IsS48.ge HI0.out); rintro e w10 ⟨v245, rfl, ho0, hi, hb, hk⟩; refine ⟨_, rfl, ?_⟩; have HO246 := am_ (Kd.R_lower ho0 (keep_size (hk_ HK))); replace HK := kt_ HK hk; replace HB := am_ (hb); replace HI0 := am_ (hi); obtain ⟨Ao11, co11, eo11⟩ := Kd.R_slice HO246.out; subst eo11) | ((with_reducible refine gk_ 29 ?_); refine gq_ 14 Tryz.func29 #[.pointer (some ⟨g, 0, none⟩), .int .i64 (t244.length : Int)] ?_; (with_reducible refine (spec_l1Cur_pick.calls g s0_0 t247 t248 (t244.length : Int) t249 t250 t251 w0 _ ?_ ?_ A3.out).mono ?_); exact IsS48.q HI0; exact hbI_ HB (IsS48.ge HI0.out); rintro e w12 ⟨rfl, hi, hb, hk⟩; refine ⟨_, rfl, ?_⟩; replace HO246 := IsS48.rk HI0 HO246 hk; replace HK := kt_ HK hk; replace HB := am_ (hb); replace HI0 := am_ (hi)) | ((with_reducible refine gk_ 29 ?_); refine gq_ 16 Tryz.func29 #[.pointer (some ⟨g, 0, none⟩), .int .i64 30] ?_; (with_reducible refine (spec_l1Cur_pick.calls g s0_0 t250 t251 30 t252 t253 t254 w0 _ ?_ ?_ A4.out).mono ?_); exact IsS48.q HI0; exact hbI_ HB (IsS48.ge HI0.out); rintro e w13 ⟨rfl, hi, hb, hk⟩; refine ⟨_, rfl, ?_⟩; replace HO246 := IsS48.rk HI0 HO246 hk; replace HK := kt_ HK hk; replace HB := am_ (hb); replace HI0 := am_ (hi)) | ((with_reducible refine gk_ 29 ?_); refine gq_ 22 Tryz.func29 #[.pointer (some ⟨g, 0, none⟩), .int .i64 11] ?_; (with_reducible refine (spec_l1Cur_pick.calls g s0_0 t253 t254 11 t255 t256 t257 w0 _ ?_ ?_ A6.out).mono ?_); exact IsS48.q HI0; exact hbI_ HB (IsS48.ge HI0.out); rintro e w14 ⟨rfl, hi, hb, hk⟩; refine ⟨_, rfl, ?_⟩; replace HO246 := IsS48.rk HI0 HO246 hk; replace HK := kt_ HK hk; replace HB := am_ (hb); replace HI0 := am_ (hi); have p9 : 0 ≤ (t249 : Int) := od_; have q9 : (t249 : Int) < ((t244.length : Int) : Int) := od_; obtain ⟨go9, co9, eo9, gb9, gl9, cl9, HG9⟩ := Kd.R_form HO246.out (by omega); (first | cases eo9 | (injection eo9 with ea_ en_ ec_; (first | subst ea_ | (injection ea_ with ea_; subst ea_)); subst ec_; clear en_)); have GB9 := am_ gb9; have GG9 := am_ HG9; clear gb9 gl9 HG9; obtain ⟨ce9, hcl9, hM9, hcc9, hfr9⟩ := Kd.R_elem HO246.out z73 (t249 : Int) p9 q9; obtain rfl := k73_openM hM9; have hx9_0 : w14.cell? ⟨go9, (t249 : Int).toNat * 2, none⟩ = some (.int .i64 ((rd_T73 t244 t249).f0)) := hcc9 0 _ rfl; have hx9_1 : w14.cell? ⟨go9, (t249 : Int).toNat * 2 + 1, none⟩ = some (.int .i64 ((rd_T73 t244 t249).f1)) := hcc9 1 _ rfl; have hf9_0 : w14.frozen? ⟨go9, (t249 : Int).toNat * 2, none⟩ = false := hfr9 0; have hf9_1 : w14.frozen? ⟨go9, (t249 : Int).toNat * 2 + 1, none⟩ = false := hfr9 1; clear hcl9 hcc9 hfr9 hM9; replace p9 := eq_true p9; replace q9 := eq_true q9; have HX15 := am_ (show Kd.R k73 73 w14 w.heap.size (fun _ => True) (.slice (some ⟨go9, 0, none⟩) t244.length co11) t244 from (Kd.R_p HO246)); obtain ⟨ce15, hcl15, hM15, hcc15, hfr15⟩ := Kd.R_elem HX15.out z73 (t249 : Int) (od_) (by have h_ : (t249 : Int) < ((t244.length : Int) : Int) := od_; first | exact h_ | (have e_ := (Kd.R_reads' HO246.out).1; omega) | simpa using h_); obtain rfl := k73_openM hM15; have HP15 := Kd.R_seg HX15.out (t249 : Int) (od_) (by have h_ : (t249 : Int) < ((t244.length : Int) : Int) := od_; first | exact h_ | (have e_ := (Kd.R_reads' HO246.out).1; omega) | simpa using h_) (seg := [.int .i64 (wrap64 (t255 - 1))]) (j := 0) hcl15 hcc15 (show 1 ≤ 2 from by decide) (x' := (⟨wrap64 (t255 - 1), (rd_T73 t244 t249).f1⟩ : S73)) (k73_mkM _ _ _ (⟨wrap64 (t255 - 1), (rd_T73 t244 t249).f1⟩ : S73) ) (fun _ hk => hk); have hx15_0 := hcc15 0 _ rfl; (try simp only [show (k73).sz = 2 from rfl, Nat.mul_one, Nat.add_zero] at hx15_0); have hf15_0 := hfr15 0; (try simp only [show (k73).sz = 2 from rfl, Nat.mul_one, Nat.add_zero] at hf15_0); clear hcl15 hcc15 hfr15 hM15) | ((with_reducible refine gate_store (t := 3) (p := 25) rfl ?_); refine store_event (t := 3) (p := 25) (v := ?vo_w16) (w1 := (w14.setCell ⟨go9, (t249 : Int).toNat * 2, none⟩ (.int .i64 (wrap64 (t255 - 1))))) ?hg ?ho ?hn ?hr ?_; (case ho => rfl); (case hg => rfl); (case hn => rfl); (case hr => first | (go_simp; done) | (go_simp; rfl)); intro w16 hw; have hg : w14.grownBy w16 (some go9) := (by rw [hw]; exact HP15.2); have hp_ : Kd.R k73 73 w16 w.heap.size (fun _ => True) (.slice (some ⟨go9, 0, none⟩) t244.length co11) y258 := (by rw [hw, Ny258.out]; exact HP15.1); clear HP15; replace HI0 := am_ (IsS48.grown (IsS48.q HI0) hg (IsS48.own_ne HI0.out HO246.out (by decide))); replace HB := am_ ((by rw [hw]; exact below_set (HB.out) (Nat.le_trans HL.out GB9.out) : Below w0.heap.size w0 w16)); replace HK := am_ (KeepBut.trans (hk_ HK) (KeepBut.of_grown hg g) (Kd.R_base2 HO246.out)); replace HO246 := am_ (hp_); clear hg hw hp_))
  go_ret
  exact ⟨_, se_, Kd.R_p HO246, IsS48.q HI0, hbI_ HB (IsS48.ge HI0.out), hk_ HK⟩
 rw [if_neg c5] at H
 have c5b0 : (t252 == 0) = false := beq_eq_false_iff_ne.mpr c5
 have c5b1 : (t252 != 0) = true := bne_iff_ne.mpr c5
 by_cases c17 : t252 = 1
 ·rw [if_pos c17] at H
  have c17b0 : (t252 == 1) = true := beq_iff_eq.mpr c17
  have c17b1 : (t252 != 1) = false := bne_eq_false_iff_eq.mpr c17
  clear c17
  obtain ⟨y259, hy259⟩ : ∃ y_ : List Int, y_ = (([(-1), 0, 1, 4, 5, 1000000, 1000001] : List Int)) := ⟨_, rfl⟩
  (try with_reducible replace H := (Option.bind_some _ _).symm.trans H); (try dsimp only at H); (try rw [← hy259] at H)
  have Ny259 := am_ hy259
  clear hy259
  revert H; refine bn_ ?_; rintro ⟨t262, t263, t264⟩ A18 H; try dsimp only at H
  revert H; refine pd_ fun c19b0 H => ?_
  revert H; refine pd_ fun c20b0 H => ?_
  obtain ⟨y265, hy265⟩ : ∃ y_ : List (S73), y_ = (t244.set (t249 : Int).toNat (⟨(rd_T73 t244 t249).f0, t262⟩ : S73)) := ⟨_, rfl⟩
  (try with_reducible replace H := (Option.bind_some _ _).symm.trans H); (try dsimp only at H); (try rw [← hy265] at H)
  have Ny265 := am_ hy265
  clear hy265
  simp only [Option.some.injEq, Prod.mk.injEq] at H
  obtain ⟨rfl, rfl, rfl⟩ := H
  go_enter Tryz.func36, Tryz.ntmps36
  go_wp2_with (first | ((with_reducible refine gk_ 57 ?_); refine gq_ 10 Tryz.func57 #[.pointer (some ⟨g, 0, none⟩)] ?_; (with_reducible refine (spec_l1Cur_rule.calls k g s0_0 s0_1 s0_2 t244 t247 t248 w0 _ ?_ ?_ A2.out).mono ?_); exact IsS48.q HI0; exact hbI_ HB (IsS48.ge HI0.out); rintro e w22 ⟨v245, rfl, ho0, hi, hb, hk⟩; refine ⟨_, rfl, ?_⟩; have HO246 := am_ (Kd.R_lower ho0 (keep_size (hk_ HK))); replace HK := kt_ HK hk; replace HB := am_ (hb); replace HI0 := am_ (hi); obtain ⟨Ao23, co23, eo23⟩ := Kd.R_slice HO246.out; subst eo23) | ((with_reducible refine gk_ 29 ?_); refine gq_ 14 Tryz.func29 #[.pointer (some ⟨g, 0, none⟩), .int .i64 (t244.length : Int)] ?_; (with_reducible refine (spec_l1Cur_pick.calls g s0_0 t247 t248 (t244.length : Int) t249 t250 t251 w0 _ ?_ ?_ A3.out).mono ?_); exact IsS48.q HI0; exact hbI_ HB (IsS48.ge HI0.out); rintro e w24 ⟨rfl, hi, hb, hk⟩; refine ⟨_, rfl, ?_⟩; replace HO246 := IsS48.rk HI0 HO246 hk; replace HK := kt_ HK hk; replace HB := am_ (hb); replace HI0 := am_ (hi)) | ((with_reducible refine gk_ 29 ?_); refine gq_ 16 Tryz.func29 #[.pointer (some ⟨g, 0, none⟩), .int .i64 30] ?_; (with_reducible refine (spec_l1Cur_pick.calls g s0_0 t250 t251 30 t252 t253 t254 w0 _ ?_ ?_ A4.out).mono ?_); exact IsS48.q HI0; exact hbI_ HB (IsS48.ge HI0.out); rintro e w25 ⟨rfl, hi, hb, hk⟩; refine ⟨_, rfl, ?_⟩; replace HO246 := IsS48.rk HI0 HO246 hk; replace HK := kt_ HK hk; replace HB := am_ (hb); replace HI0 := am_ (hi)) | ((with_reducible refine gate_dst (N := 31) rfl ?_); refine Kd.R_lit (Kd.int .i64) _ 3 ?hg (N := 31) ?hd (xs := ([(-1), 0, 1, 4, 5, 1000000, 1000001] : List Int)) (inner := [.int .i64 (-1), .int .i64 0, .int .i64 1, .int .i64 4, .int .i64 5, .int .i64 1000000, .int .i64 1000001]) (ok := fun _ => True) (okp := fun _ => True) ?hr ?hp (fun _ hk => hk) trivial (Below.refl _ _) (Nat.le_refl _) (by simp) ?_; (case hd => rfl); (case hg => rfl); (case hr => first | (go_simp; done) | (go_simp; rfl)); (case hp => exact (Reps.one (show Kd.M (Kd.int .i64) _ _ _ (-1) [.int .i64 (-1)] from rfl) (Reps.one (show Kd.M (Kd.int .i64) _ _ _ 0 [.int .i64 0] from rfl) (Reps.one (show Kd.M (Kd.int .i64) _ _ _ 1 [.int .i64 1] from rfl) (Reps.one (show Kd.M (Kd.int .i64) _ _ _ 4 [.int .i64 4] from rfl) (Reps.one (show Kd.M (Kd.int .i64) _ _ _ 5 [.int .i64 5] from rfl) (Reps.one (show Kd.M (Kd.int .i64) _ _ _ 1000000 [.int .i64 1000000] from rfl) (Reps.one (show Kd.M (Kd.int .i64) _ _ _ 1000001 [.int .i64 1000001] from rfl) (Reps.none _ _))))))))); intro v260 w26 ho27 hb hg_ hnew_; clear hg_ hnew_; (first | rw [← Ny259.out] at ho27 | (simp only [Int.reduceToNat] at ho27; rw [← Ny259.out] at ho27)); have HO261 := am_ (Kd.R_lower ho27 (keep_size (hk_ HK))); replace HO246 := Kd.R_b HO246 hb; replace HK := hkb_ HK hb; replace HB := am_ (below_step (hbI_ HB (IsS48.ge HI0.out)) hb); replace HI0 := IsS48.b HI0 hb; clear hb ho27; obtain ⟨Ao28, co28, eo28⟩ := Kd.R_slice HO261.out; subst eo28) | ((with_reducible refine gk_ 58 ?_); refine gq_ 32 Tryz.func58 #[.pointer (some ⟨g, 0, none⟩), .slice Ao28 y259.length co28] ?_; (with_reducible refine (spec_l1Cur_among.calls g s0_0 t253 t254 _ _ y259 t262 t263 t264 w0 _ ?_ ?_ ?_ ?_ ?_ A18.out).mono ?_); exact IsS48.q HI0; exact hbI_ HB (IsS48.ge HI0.out); exact Kd.C_o HO261; exact (Kd.R_reads' HO261.out).2.1; exact far_slice (IsS48.own_ne HI0.out HO261.out (by decide)); rintro e w29 ⟨rfl, hi, hb, hk⟩; refine ⟨_, rfl, ?_⟩; replace HO246 := IsS48.rk HI0 HO246 hk; replace HO261 := IsS48.rk HI0 HO261 hk; replace HK := kt_ HK hk; replace HB := am_ (hb); replace HI0 := am_ (hi); have p21 : 0 ≤ (t249 : Int) := od_; have q21 : (t249 : Int) < ((t244.length : Int) : Int) := od_; obtain ⟨go21, co21, eo21, gb21, gl21, cl21, HG21⟩ := Kd.R_form HO246.out (by omega); (first | cases eo21 | (injection eo21 with ea_ en_ ec_; (first | subst ea_ | (injection ea_ with ea_; subst ea_)); subst ec_; clear en_)); have GB21 := am_ gb21; have GG21 := am_ HG21; clear gb21 gl21 HG21; obtain ⟨ce21, hcl21, hM21, hcc21, hfr21⟩ := Kd.R_elem HO246.out z73 (t249 : Int) p21 q21; obtain rfl := k73_openM hM21; have hx21_0 : w29.cell? ⟨go21, (t249 : Int).toNat * 2, none⟩ = some (.int .i64 ((rd_T73 t244 t249).f0)) := hcc21 0 _ rfl; have hx21_1 : w29.cell? ⟨go21, (t249 : Int).toNat * 2 + 1, none⟩ = some (.int .i64 ((rd_T73 t244 t249).f1)) := hcc21 1 _ rfl; have hf21_0 : w29.frozen? ⟨go21, (t249 : Int).toNat * 2, none⟩ = false := hfr21 0; have hf21_1 : w29.frozen? ⟨go21, (t249 : Int).toNat * 2 + 1, none⟩ = false := hfr21 1; clear hcl21 hcc21 hfr21 hM21; replace p21 := eq_true p21; replace q21 := eq_true q21; try clear HO261; have HX30 := am_ (show Kd.R k73 73 w29 w.heap.size (fun _ => True) (.slice (some ⟨go21, 0, none⟩) t244.length co23) t244 from (Kd.R_p HO246)); obtain ⟨ce30, hcl30, hM30, hcc30, hfr30⟩ := Kd.R_elem HX30.out z73 (t249 : Int) (od_) (by have h_ : (t249 : Int) < ((t244.length : Int) : Int) := od_; first | exact h_ | (have e_ := (Kd.R_reads' HO246.out).1; omega) | simpa using h_); obtain rfl := k73_openM hM30; have HP30 := Kd.R_seg HX30.out (t249 : Int) (od_) (by have h_ : (t249 : Int) < ((t244.length : Int) : Int) := od_; first | exact h_ | (have e_ := (Kd.R_reads' HO246.out).1; omega) | simpa using h_) (seg := [.int .i64 t262]) (j := 1) hcl30 hcc30 (show 2 ≤ 2 from by decide) (x' := (⟨(rd_T73 t244 t249).f0, t262⟩ : S73)) (k73_mkM _ _ _ (⟨(rd_T73 t244 t249).f0, t262⟩ : S73) ) (fun _ hk => hk); have hx30_1 := hcc30 1 _ rfl; (try simp only [show (k73).sz = 2 from rfl, Nat.mul_one, Nat.add_zero] at hx30_1); have hf30_1 := hfr30 1; (try simp only [show (k73).sz = 2 from rfl, Nat.mul_one, Nat.add_zero] at hf30_1); clear hcl30 hcc30 hfr30 hM30) | ((with_reducible refine gate_store (t := 3) (p := 34) rfl ?_); refine store_event (t := 3) (p := 34) (v := ?vo_w31) (w1 := (w29.setCell ⟨go21, (t249 : Int).toNat * 2 + 1, none⟩ (.int .i64 t262))) ?hg ?ho ?hn ?hr ?_; (case ho => rfl); (case hg => rfl); (case hn => rfl); (case hr => first | (go_simp; done) | (go_simp; rfl)); intro w31 hw; have hg : w29.grownBy w31 (some go21) := (by rw [hw]; exact HP30.2); have hp_ : Kd.R k73 73 w31 w.heap.size (fun _ => True) (.slice (some ⟨go21, 0, none⟩) t244.length co23) y265 := (by rw [hw, Ny265.out]; exact HP30.1); clear HP30; replace HI0 := am_ (IsS48.grown (IsS48.q HI0) hg (IsS48.own_ne HI0.out HO246.out (by decide))); replace HB := am_ ((by rw [hw]; exact below_set (HB.out) (Nat.le_trans HL.out GB21.out) : Below w0.heap.size w0 w31)); replace HK := am_ (KeepBut.trans (hk_ HK) (KeepBut.of_grown hg g) (Kd.R_base2 HO246.out)); replace HO246 := am_ (hp_); clear hg hw hp_))
  go_ret
  exact ⟨_, se_, Kd.R_p HO246, IsS48.q HI0, hbI_ HB (IsS48.ge HI0.out), hk_ HK⟩
 rw [if_neg c17] at H
 have c17b0 : (t252 == 1) = false := beq_eq_false_iff_ne.mpr c17
 have c17b1 : (t252 != 1) = true := bne_iff_ne.mpr c17
 by_cases c32 : t252 = 2
 ·rw [if_pos c32] at H
  have c32b0 : (t252 == 2) = true := beq_iff_eq.mpr c32
  have c32b1 : (t252 != 2) = false := bne_eq_false_iff_eq.mpr c32
  clear c32
  revert H; refine pf_ fun c33 H => ?_
  have c33b0 := eq_true c33
  have c33b1 := decide_eq_true c33
  clear c33
  revert H; refine pf_ fun c34 H => ?_
  have c34b0 := eq_true c34
  have c34b1 := decide_eq_true c34
  clear c34
  obtain ⟨y266, hy266⟩ : ∃ y_ : List (S73), y_ = (t244.take (t249 : Int).toNat) := ⟨_, rfl⟩
  (try with_reducible replace H := (Option.bind_some _ _).symm.trans H); (try dsimp only at H); (try rw [← hy266] at H)
  have Ny266 := am_ hy266
  clear hy266
  simp only [Option.some.injEq, Prod.mk.injEq] at H
  obtain ⟨rfl, rfl, rfl⟩ := H
  go_enter Tryz.func36, Tryz.ntmps36
  go_wp2_with (first | ((with_reducible refine gk_ 57 ?_); refine gq_ 10 Tryz.func57 #[.pointer (some ⟨g, 0, none⟩)] ?_; (with_reducible refine (spec_l1Cur_rule.calls k g s0_0 s0_1 s0_2 t244 t247 t248 w0 _ ?_ ?_ A2.out).mono ?_); exact IsS48.q HI0; exact hbI_ HB (IsS48.ge HI0.out); rintro e w35 ⟨v245, rfl, ho0, hi, hb, hk⟩; refine ⟨_, rfl, ?_⟩; have HO246 := am_ (Kd.R_lower ho0 (keep_size (hk_ HK))); replace HK := kt_ HK hk; replace HB := am_ (hb); replace HI0 := am_ (hi); obtain ⟨Ao36, co36, eo36⟩ := Kd.R_slice HO246.out; subst eo36) | ((with_reducible refine gk_ 29 ?_); refine gq_ 14 Tryz.func29 #[.pointer (some ⟨g, 0, none⟩), .int .i64 (t244.length : Int)] ?_; (with_reducible refine (spec_l1Cur_pick.calls g s0_0 t247 t248 (t244.length : Int) t249 t250 t251 w0 _ ?_ ?_ A3.out).mono ?_); exact IsS48.q HI0; exact hbI_ HB (IsS48.ge HI0.out); rintro e w37 ⟨rfl, hi, hb, hk⟩; refine ⟨_, rfl, ?_⟩; replace HO246 := IsS48.rk HI0 HO246 hk; replace HK := kt_ HK hk; replace HB := am_ (hb); replace HI0 := am_ (hi)) | ((with_reducible refine gk_ 29 ?_); refine gq_ 16 Tryz.func29 #[.pointer (some ⟨g, 0, none⟩), .int .i64 30] ?_; (with_reducible refine (spec_l1Cur_pick.calls g s0_0 t250 t251 30 t252 t253 t254 w0 _ ?_ ?_ A4.out).mono ?_); exact IsS48.q HI0; exact hbI_ HB (IsS48.ge HI0.out); rintro e w38 ⟨rfl, hi, hb, hk⟩; refine ⟨_, rfl, ?_⟩; replace HO246 := IsS48.rk HI0 HO246 hk; replace HK := kt_ HK hk; replace HB := am_ (hb); replace HI0 := am_ (hi); have q39 : (t249 : Int) ≤ ((t244.length : Int) : Int) := od_; obtain ⟨i039, hi039, _, hsz39, _⟩ := info_parts info73; have hcut39 := cut_to (P := Tryz.prog) 23 73 .i64 Tryz.underlying23 hi039 Ao36 t244.length co36 t249 (od_) q39 (Kd.R_reads' HO246.out).2.1; have hr39 := Kd.R_take (m := (t249 : Int).toNat) HO246.out (by omega); have hy39 : y266.length = (t249 : Int).toNat := (by rw [Ny266.out, List.length_take]; omega); rw [← Ny266.out] at hr39; rw [← hy39] at hr39 hcut39; clear hy39 hi039 hsz39 HO246; have HO268 := am_ hr39; clear hr39; replace q39 := eq_true q39))
  go_ret
  exact ⟨_, se_, Kd.R_p HO268, IsS48.q HI0, hbI_ HB (IsS48.ge HI0.out), hk_ HK⟩
 rw [if_neg c32] at H
 have c32b0 : (t252 == 2) = false := beq_eq_false_iff_ne.mpr c32
 have c32b1 : (t252 != 2) = true := bne_iff_ne.mpr c32
 by_cases c40 : t252 = 3
 ·rw [if_pos c40] at H
  have c40b0 : (t252 == 3) = true := beq_iff_eq.mpr c40
  have c40b1 : (t252 != 3) = false := bne_eq_false_iff_eq.mpr c40
  clear c40
  revert H; refine pf_ fun c41 H => ?_
  have LMc41 := am_ c41
  clear c41
  obtain ⟨y269, hy269⟩ : ∃ y_ : List (S73), y_ = (t244 ++ [(⟨0, 1⟩ : S73)]) := ⟨_, rfl⟩
  (try with_reducible replace H := (Option.bind_some _ _).symm.trans H); (try dsimp only at H); (try rw [← hy269] at H)
  have Ny269 := am_ hy269
  clear hy269
  simp only [Option.some.injEq, Prod.mk.injEq] at H
  obtain ⟨rfl, rfl, rfl⟩ := H
  go_enter Tryz.func36, Tryz.ntmps36
  go_wp2_with (first | ((with_reducible refine gk_ 57 ?_); refine gq_ 10 Tryz.func57 #[.pointer (some ⟨g, 0, none⟩)] ?_; (with_reducible refine (spec_l1Cur_rule.calls k g s0_0 s0_1 s0_2 t244 t247 t248 w0 _ ?_ ?_ A2.out).mono ?_); exact IsS48.q HI0; exact hbI_ HB (IsS48.ge HI0.out); rintro e w42 ⟨v245, rfl, ho0, hi, hb, hk⟩; refine ⟨_, rfl, ?_⟩; have HO246 := am_ (Kd.R_lower ho0 (keep_size (hk_ HK))); replace HK := kt_ HK hk; replace HB := am_ (hb); replace HI0 := am_ (hi); obtain ⟨Ao43, co43, eo43⟩ := Kd.R_slice HO246.out; subst eo43) | ((with_reducible refine gk_ 29 ?_); refine gq_ 14 Tryz.func29 #[.pointer (some ⟨g, 0, none⟩), .int .i64 (t244.length : Int)] ?_; (with_reducible refine (spec_l1Cur_pick.calls g s0_0 t247 t248 (t244.length : Int) t249 t250 t251 w0 _ ?_ ?_ A3.out).mono ?_); exact IsS48.q HI0; exact hbI_ HB (IsS48.ge HI0.out); rintro e w44 ⟨rfl, hi, hb, hk⟩; refine ⟨_, rfl, ?_⟩; replace HO246 := IsS48.rk HI0 HO246 hk; replace HK := kt_ HK hk; replace HB := am_ (hb); replace HI0 := am_ (hi)) | ((with_reducible refine gk_ 29 ?_); refine gq_ 16 Tryz.func29 #[.pointer (some ⟨g, 0, none⟩), .int .i64 30] ?_; (with_reducible refine (spec_l1Cur_pick.calls g s0_0 t250 t251 30 t252 t253 t254 w0 _ ?_ ?_ A4.out).mono ?_); exact IsS48.q HI0; exact hbI_ HB (IsS48.ge HI0.out); rintro e w45 ⟨rfl, hi, hb, hk⟩; refine ⟨_, rfl, ?_⟩; replace HO246 := IsS48.rk HI0 HO246 hk; replace HK := kt_ HK hk; replace HB := am_ (hb); replace HI0 := am_ (hi)) | ((with_reducible refine gate_builtin (b := .append) (xs := #[.tmp 42, .tmp 44]) rfl ?_); at_builtin; refine Kd.R_append k73 w.heap.size rfl (.tmp 42) (.tmp 44) 23 73 (.agg #[(.int .i64 0), (.int .i64 0)]) 16 rfl Tryz.underlying23 info73 rfl (by decide) (by omega) (.slice Ao43 t244.length co43) t244 (⟨0, 1⟩ : S73) [.int .i64 0, .int .i64 1] (fun _ => True) (fun _ => False) rfl rfl ?aP (fun _ hk => hk.elim) ?aF ?aO (Below.refl _ _) ?aS ?aL ?_; (case aP => exact k73_mkM _ _ _ (⟨0, 1⟩ : S73)); (case aF => exact (fun _ _ => trivial)); (case aO => exact (Kd.R_p HO246)); (case aS => exact (keep_size (hk_ HK))); (case aL => have := LMc41.out; omega); intro v270 w46 ho hb hg hat; rw [← Ny269.out] at ho; have HO271 := am_ (ho); replace HB := am_ (below_weaken (hbI_ HB (IsS48.ge HI0.out)) HL.out hb); replace HK := am_ (KeepBut.trans (hk_ HK) (KeepBut.of_grown hg g) (Kd.R_base2 HO246.out)); replace HI0 := am_ (IsS48.grown (IsS48.q HI0) hg (IsS48.own_ne HI0.out HO246.out (by decide))); clear HO246; clear ho hb hg hat))
  go_ret
  exact ⟨_, se_, Kd.R_p HO271, IsS48.q HI0, hbI_ HB (IsS48.ge HI0.out), hk_ HK⟩
 rw [if_neg c40] at H
 have c40b0 : (t252 == 3) = false := beq_eq_false_iff_ne.mpr c40
 have c40b1 : (t252 != 3) = true := bne_iff_ne.mpr c40
 by_cases c47 : t252 = 4
 ·rw [if_pos c47] at H
  have c47b0 : (t252 == 4) = true := beq_iff_eq.mpr c47
  have c47b1 : (t252 != 4) = false := bne_eq_false_iff_eq.mpr c47
  clear c47
  obtain ⟨y272, hy272⟩ : ∃ y_ : List (S73), y_ = (([(⟨0, 1⟩ : S73)] : List (S73))) := ⟨_, rfl⟩
  (try with_reducible replace H := (Option.bind_some _ _).symm.trans H); (try dsimp only at H); (try rw [← hy272] at H)
  have Ny272 := am_ hy272
  clear hy272
  have H' := am_ H
  clear H
  go_enter Tryz.func36, Tryz.ntmps36
  go_wp2_with (first | ((with_reducible refine gk_ 57 ?_); refine gq_ 10 Tryz.func57 #[.pointer (some ⟨g, 0, none⟩)] ?_; (with_reducible refine (spec_l1Cur_rule.calls k g s0_0 s0_1 s0_2 t244 t247 t248 w0 _ ?_ ?_ A2.out).mono ?_); exact IsS48.q HI0; exact hbI_ HB (IsS48.ge HI0.out); rintro e w48 ⟨v245, rfl, ho0, hi, hb, hk⟩; refine ⟨_, rfl, ?_⟩; have HO246 := am_ (Kd.R_lower ho0 (keep_size (hk_ HK))); replace HK := kt_ HK hk; replace HB := am_ (hb); replace HI0 := am_ (hi); obtain ⟨Ao49, co49, eo49⟩ := Kd.R_slice HO246.out; subst eo49; try clear HO246) | ((with_reducible refine gk_ 29 ?_); refine gq_ 14 Tryz.func29 #[.pointer (some ⟨g, 0, none⟩), .int .i64 (t244.length : Int)] ?_; (with_reducible refine (spec_l1Cur_pick.calls g s0_0 t247 t248 (t244.length : Int) t249 t250 t251 w0 _ ?_ ?_ A3.out).mono ?_); exact IsS48.q HI0; exact hbI_ HB (IsS48.ge HI0.out); rintro e w50 ⟨rfl, hi, hb, hk⟩; refine ⟨_, rfl, ?_⟩; replace HK := kt_ HK hk; replace HB := am_ (hb); replace HI0 := am_ (hi)) | ((with_reducible refine gk_ 29 ?_); refine gq_ 16 Tryz.func29 #[.pointer (some ⟨g, 0, none⟩), .int .i64 30] ?_; (with_reducible refine (spec_l1Cur_pick.calls g s0_0 t250 t251 30 t252 t253 t254 w0 _ ?_ ?_ A4.out).mono ?_); exact IsS48.q HI0; exact hbI_ HB (IsS48.ge HI0.out); rintro e w51 ⟨rfl, hi, hb, hk⟩; refine ⟨_, rfl, ?_⟩; replace HK := kt_ HK hk; replace HB := am_ (hb); replace HI0 := am_ (hi)) | ((with_reducible refine gate_dst (N := 49) rfl ?_); refine Kd.R_lit k73 _ 73 ?hg (N := 49) ?hd (xs := ([(⟨0, 1⟩ : S73)] : List (S73))) (inner := [.int .i64 0, .int .i64 1]) (ok := fun _ => True) (okp := fun _ => True) ?hr ?hp (fun _ hk => hk) trivial (Below.refl _ _) (Nat.le_refl _) (by simp) ?_; (case hd => rfl); (case hg => rfl); (case hr => first | (go_simp; done) | (go_simp; rfl)); (case hp => exact (Reps.c2 (show Kd.M k73 _ _ _ (⟨0, 1⟩ : S73) [.int .i64 0, .int .i64 1] from (k73_mkM _ _ _ (⟨0, 1⟩ : S73) )) (Reps.none _ _))); intro v273 w52 ho53 hb hg_ hnew_; clear hg_ hnew_; (first | rw [← Ny272.out] at ho53 | (simp only [Int.reduceToNat] at ho53; rw [← Ny272.out] at ho53)); have HO274 := am_ (Kd.R_lower ho53 (keep_size (hk_ HK))); replace HK := hkb_ HK hb; replace HB := am_ (below_step (hbI_ HB (IsS48.ge HI0.out)) hb); replace HI0 := IsS48.b HI0 hb; clear hb ho53))
  go_loopg [3, 5] k (fun kq v3 v5 w' => ∃ (x3_1 : List (S73)) (x5_1 : Int), v5 = .int .i64 x5_1 ∧ Aside0 (spec_l1Cur_anyRule.l0 kq x3_1 x5_1 s0_0 t253 t254 = some (r1, r2, r3)) ∧ Aside0 (kq ≤ k) ∧ Aside0 (Kd.R k73 73 w' w.heap.size (fun _ => True) v3 x3_1) ∧ Aside0 (IsS48 w0 w' g s0_0 t253 t254) ∧ Aside0 (KeepBut w w' g none) ∧ Aside0 (Below w0.heap.size w0 w'))
  case atStart => exact ⟨(y272), (4), sr_, H', ⟨Nat.le_refl _⟩, ⟨Kd.R_p HO274⟩, ⟨IsS48.q HI0⟩, ⟨hk_ HK⟩, ⟨hbI_ HB (IsS48.ge HI0.out)⟩⟩
  clear H'
  obtain ⟨x3_1, x5_1, rfl, HA, HK1, HO_3, HI0, HK, HB⟩ := hrel
  cases gk with
  | zero => exact absurd HA.out (by simp [spec_l1Cur_anyRule.l0])
  | succ k1 => ?_
  have H := HA.out
  clear HA
  simp only [spec_l1Cur_anyRule.l0] at H
  by_cases c54 : x5_1 > 0
  ·rw [if_pos c54] at H
   have c54b0 : decide (0 < x5_1) = true := decide_eq_true c54
   clear c54
   revert H; refine pf_ fun c55 H => ?_
   have LMc55 := am_ c55
   clear c55
   obtain ⟨y275, hy275⟩ : ∃ y_ : List (S73), y_ = (x3_1 ++ x3_1) := ⟨_, rfl⟩
   (try with_reducible replace H := (Option.bind_some _ _).symm.trans H); (try dsimp only at H); (try rw [← hy275] at H)
   have Ny275 := am_ hy275
   clear hy275
   revert H; refine pf_ fun c56 H => ?_
   have LMc56 := am_ c56
   clear c56
   obtain ⟨y278, hy278⟩ : ∃ y_ : List (S73), y_ = (y275 ++ [(⟨2, 0⟩ : S73)]) := ⟨_, rfl⟩
   (try with_reducible replace H := (Option.bind_some _ _).symm.trans H); (try dsimp only at H); (try rw [← hy278] at H)
   have Ny278 := am_ hy278
   clear hy278
   have H' := am_ H
   clear H
   obtain ⟨Ao58, co58, eo58⟩ := Kd.R_slice HO_3.out
   subst eo58
   go_wp2_with (first | ((with_reducible refine gate_builtin (b := .append) (xs := #[.tmp 54, .tmp 55]) rfl ?_); at_builtin; refine Kd.R_append_rows k73 w.heap.size rfl (.tmp 54) (.tmp 55) 23 73 (.agg #[(.int .i64 0), (.int .i64 0)]) 16 rfl Tryz.underlying23 info73 rfl (by decide) (by omega) (.slice Ao58 x3_1.length co58) x3_1 x3_1 _ _ _ (fun _ => True) (fun _ => False) rfl rfl ?aO ?aR (fun _ _ h => h) (fun _ h => h.elim) ?aF (Below.refl _ _) ?aS ?aL ?_; (case aR => exact Kd.C_o HO_3); (case aF => exact (fun _ _ => trivial)); (case aO => exact (Kd.R_p HO_3)); (case aS => exact (keep_size (hk_ HK))); (case aL => have := LMc55.out; omega); intro v276 w57 ho hb hg hat; rw [← Ny275.out] at ho; have HO277 := am_ (ho); replace HB := am_ (below_weaken (hbI_ HB (IsS48.ge HI0.out)) HL.out hb); replace HK := am_ (KeepBut.trans (hk_ HK) (KeepBut.of_grown hg g) (Kd.R_base2 HO_3.out)); replace HI0 := am_ (IsS48.grown (IsS48.q HI0) hg (IsS48.own_ne HI0.out HO_3.out (by decide))); clear HO_3; clear ho hb hg hat) | ((with_reducible refine gate_builtin (b := .append) (xs := #[.tmp 57, .tmp 59]) rfl ?_); at_builtin; refine Kd.R_append k73 w.heap.size rfl (.tmp 57) (.tmp 59) 23 73 (.agg #[(.int .i64 0), (.int .i64 0)]) 16 rfl Tryz.underlying23 info73 rfl (by decide) (by omega) v276 y275 (⟨2, 0⟩ : S73) [.int .i64 2, .int .i64 0] (fun _ => True) (fun _ => False) rfl rfl ?aP (fun _ hk => hk.elim) ?aF ?aO (Below.refl _ _) ?aS ?aL ?_; (case aP => exact k73_mkM _ _ _ (⟨2, 0⟩ : S73)); (case aF => exact (fun _ _ => trivial)); (case aO => exact (Kd.R_p HO277)); (case aS => exact (keep_size (hk_ HK))); (case aL => have := LMc56.out; omega); intro v279 w59 ho hb hg hat; rw [← Ny278.out] at ho; have HO280 := am_ (ho); replace HB := am_ (below_weaken (hbI_ HB (IsS48.ge HI0.out)) HL.out hb); replace HK := am_ (KeepBut.trans (hk_ HK) (KeepBut.of_grown hg g) (Kd.R_base2 HO277.out)); replace HI0 := am_ (IsS48.grown (IsS48.q HI0) hg (IsS48.own_ne HI0.out HO277.out (by decide))); clear HO277; clear ho hb hg hat))
   go_roundg k1
   case measure => have := HK1.out; omega
   case rel => exact ⟨(y278), (wrap64 (x5_1 - 1)), sr_, H', ⟨by have := HK1.out; omega⟩, ⟨Kd.R_p HO280⟩, ⟨IsS48.q HI0⟩, ⟨hk_ HK⟩, ⟨hbI_ HB (IsS48.ge HI0.out)⟩⟩
  rw [if_neg c54] at H
  have c54b0 : decide (0 < x5_1) = false := decide_eq_false c54
  clear c54
  revert H; refine bn_ ?_; rintro ⟨t281, t282, t283⟩ A60 H; try dsimp only at H
  have H' := am_ H
  clear H
  go_wp2_with (first | ((with_reducible refine gk_ 29 ?_); refine gq_ 62 Tryz.func29 #[.pointer (some ⟨g, 0, none⟩), .int .i64 2] ?_; (with_reducible refine (spec_l1Cur_pick.calls g s0_0 t253 t254 2 t281 t282 t283 w0 _ ?_ ?_ A60.out).mono ?_); exact IsS48.q HI0; exact hbI_ HB (IsS48.ge HI0.out); rintro e w61 ⟨rfl, hi, hb, hk⟩; refine ⟨_, rfl, ?_⟩; replace HO_3 := IsS48.rk HI0 HO_3 hk; replace HK := kt_ HK hk; replace HB := am_ (hb); replace HI0 := am_ (hi)))
  go_loopg [3] k1 (fun kq v3 w' => ∃ (x3_2 : List (S73)), Aside0 (spec_l1Cur_anyRule.l1 kq x3_2 (wrap64 (39 + (wrap64 (2 * t281)))) s0_0 t282 t283 = some (r1, r2, r3)) ∧ Aside0 (kq ≤ k1) ∧ Aside0 (Kd.R k73 73 w' w.heap.size (fun _ => True) v3 x3_2) ∧ Aside0 (IsS48 w0 w' g s0_0 t282 t283) ∧ Aside0 (KeepBut w w' g none) ∧ Aside0 (Below w0.heap.size w0 w'))
  case atStart => exact ⟨(x3_1), H', ⟨Nat.le_refl _⟩, ⟨Kd.R_p HO_3⟩, ⟨IsS48.q HI0⟩, ⟨hk_ HK⟩, ⟨hbI_ HB (IsS48.ge HI0.out)⟩⟩
  clear H'
  obtain ⟨x3_2, HA, HK2, HO_3, HI0, HK, HB⟩ := hrel
  cases gk with
  | zero => exact absurd HA.out (by simp [spec_l1Cur_anyRule.l1])
  | succ k2 => ?_
  have H := HA.out
  clear HA
  simp only [spec_l1Cur_anyRule.l1] at H
  by_cases c62 : (x3_2.length : Int) < (wrap64 (39 + (wrap64 (2 * t281))))
  case neg => rw [if_neg c62] at H; have c62b0 := decide_eq_false c62; clear c62; simp only [Option.some.injEq, Prod.mk.injEq] at H; obtain ⟨rfl, rfl, rfl⟩ := H; obtain ⟨Ao69, co69, eo69⟩ := Kd.R_slice HO_3.out; subst eo69; go_wp2; go_ret; (exact ⟨_, se_, Kd.R_p HO_3, IsS48.q HI0, hbI_ HB (IsS48.ge HI0.out), hk_ HK⟩)
  rw [if_pos c62] at H
  have c62b0 := decide_eq_true c62
  clear c62
  obtain ⟨y284, hy284⟩ : ∃ y_ : List (S73), y_ = (([(⟨0, 1⟩ : S73), (⟨3, 0⟩ : S73)] : List (S73))) := ⟨_, rfl⟩
  (try with_reducible replace H := (Option.bind_some _ _).symm.trans H); (try dsimp only at H); (try rw [← hy284] at H)
  have Ny284 := am_ hy284
  clear hy284
  revert H; refine pf_ fun c63 H => ?_
  have LMc63 := am_ c63
  clear c63
  obtain ⟨y287, hy287⟩ : ∃ y_ : List (S73), y_ = (x3_2 ++ y284) := ⟨_, rfl⟩
  (try with_reducible replace H := (Option.bind_some _ _).symm.trans H); (try dsimp only at H); (try rw [← hy287] at H)
  have Ny287 := am_ hy287
  clear hy287
  have H' := am_ H
  clear H
  obtain ⟨Ao64, co64, eo64⟩ := Kd.R_slice HO_3.out
  subst eo64
  go_wp2_with (first | ((with_reducible refine gate_dst (N := 72) rfl ?_); refine Kd.R_lit k73 _ 73 ?hg (N := 72) ?hd (xs := ([(⟨0, 1⟩ : S73), (⟨3, 0⟩ : S73)] : List (S73))) (inner := [.int .i64 0, .int .i64 1, .int .i64 3, .int .i64 0]) (ok := fun _ => True) (okp := fun _ => True) ?hr ?hp (fun _ hk => hk) trivial (Below.refl _ _) (Nat.le_refl _) (by simp) ?_; (case hd => rfl); (case hg => rfl); (case hr => first | (go_simp; done) | (go_simp; rfl)); (case hp => exact (Reps.c2 (show Kd.M k73 _ _ _ (⟨0, 1⟩ : S73) [.int .i64 0, .int .i64 1] from (k73_mkM _ _ _ (⟨0, 1⟩ : S73) )) (Reps.c2 (show Kd.M k73 _ _ _ (⟨3, 0⟩ : S73) [.int .i64 3, .int .i64 0] from (k73_mkM _ _ _ (⟨3, 0⟩ : S73) )) (Reps.none _ _)))); intro v285 w65 ho66 hb hg_ hnew_; clear hg_ hnew_; (first | rw [← Ny284.out] at ho66 | (simp only [Int.reduceToNat] at ho66; rw [← Ny284.out] at ho66)); have HO286 := am_ (Kd.R_lower (Kd.R_nw ho66 HO_3) (keep_size (hk_ HK))); replace HO_3 := Kd.R_e HO_3 ho66 hb; replace HK := hkb_ HK hb; replace HB := am_ (below_step (hbI_ HB (IsS48.ge HI0.out)) hb); replace HI0 := IsS48.b HI0 hb; clear hb ho66; obtain ⟨Ao68, co68, eo68⟩ := Kd.R_slice HO286.out; subst eo68) | ((with_reducible refine gate_builtin (b := .append) (xs := #[.tmp 69, .tmp 72]) rfl ?_); at_builtin; refine Kd.R_append_rows k73 w.heap.size rfl (.tmp 69) (.tmp 72) 23 73 (.agg #[(.int .i64 0), (.int .i64 0)]) 16 rfl Tryz.underlying23 info73 rfl (by decide) (by omega) (.slice Ao64 x3_2.length co64) x3_2 y284 _ _ _ (fun k_ => some k_ ≠ (.slice Ao68 y284.length co68 : Value).ownBlock) (fun _ => False) rfl rfl ?aO ?aR (fun _ _ h => h) (fun _ h => h.elim) ?aF (Below.refl _ _) ?aS ?aL ?_; (case aR => exact Kd.C_o HO286); (case aF => exact (fun k_ hk => Kd.fresh' (Kd.R_lt (Kd.R_p HO286)) k_ hk)); (case aO => exact (rm_ (h := HO_3.out))); (case aS => exact (keep_size (hk_ HK))); (case aL => have := LMc63.out; omega); intro v288 w67 ho hb hg hat; rw [← Ny287.out] at ho; have HO289 := am_ (ho); replace HO286 := am_ (Kd.R_after (ok := (fun _ => True)) (Kd.R_p HO286) hg hat); replace HB := am_ (below_weaken (hbI_ HB (IsS48.ge HI0.out)) HL.out hb); replace HK := am_ (KeepBut.trans (hk_ HK) (KeepBut.of_grown hg g) (Kd.R_base2 HO_3.out)); replace HI0 := am_ (IsS48.grown (IsS48.q HI0) hg (IsS48.own_ne HI0.out HO_3.out (by decide))); clear HO_3; clear ho hb hg hat))
  go_roundg k2
  case measure => have := HK1.out; have := HK2.out; omega
  case rel => exact ⟨(y287), H', ⟨by have := HK1.out; have := HK2.out; omega⟩, ⟨rm_ (h := HO289.out)⟩, ⟨IsS48.q HI0⟩, ⟨hk_ HK⟩, ⟨hbI_ HB (IsS48.ge HI0.out)⟩⟩
 rw [if_neg c47] at H
 have c47b0 : (t252 == 4) = false := beq_eq_false_iff_ne.mpr c47
 have c47b1 : (t252 != 4) = true := bne_iff_ne.mpr c47
 by_cases c70 : t252 = 5
 ·rw [if_pos c70] at H
  have c70b0 : (t252 == 5) = true := beq_iff_eq.mpr c70
  have c70b1 : (t252 != 5) = false := bne_eq_false_iff_eq.mpr c70
  clear c70
  obtain ⟨y290, hy290⟩ : ∃ y_ : List (S73), y_ = (([(⟨0, 1⟩ : S73)] : List (S73))) := ⟨_, rfl⟩
  (try with_reducible replace H := (Option.bind_some _ _).symm.trans H); (try dsimp only at H); (try rw [← hy290] at H)
  have Ny290 := am_ hy290
  clear hy290
  revert H; refine bn_ ?_; rintro ⟨t293, t294, t295⟩ A71 H; try dsimp only at H
  have H' := am_ H
  clear H
  go_enter Tryz.func36, Tryz.ntmps36
  go_wp2_with (first | ((with_reducible refine gk_ 57 ?_); refine gq_ 10 Tryz.func57 #[.pointer (some ⟨g, 0, none⟩)] ?_; (with_reducible refine (spec_l1Cur_rule.calls k g s0_0 s0_1 s0_2 t244 t247 t248 w0 _ ?_ ?_ A2.out).mono ?_); exact IsS48.q HI0; exact hbI_ HB (IsS48.ge HI0.out); rintro e w72 ⟨v245, rfl, ho0, hi, hb, hk⟩; refine ⟨_, rfl, ?_⟩; have HO246 := am_ (Kd.R_lower ho0 (keep_size (hk_ HK))); replace HK := kt_ HK hk; replace HB := am_ (hb); replace HI0 := am_ (hi); obtain ⟨Ao73, co73, eo73⟩ := Kd.R_slice HO246.out; subst eo73; try clear HO246) | ((with_reducible refine gk_ 29 ?_); refine gq_ 14 Tryz.func29 #[.pointer (some ⟨g, 0, none⟩), .int .i64 (t244.length : Int)] ?_; (with_reducible refine (spec_l1Cur_pick.calls g s0_0 t247 t248 (t244.length : Int) t249 t250 t251 w0 _ ?_ ?_ A3.out).mono ?_); exact IsS48.q HI0; exact hbI_ HB (IsS48.ge HI0.out); rintro e w74 ⟨rfl, hi, hb, hk⟩; refine ⟨_, rfl, ?_⟩; replace HK := kt_ HK hk; replace HB := am_ (hb); replace HI0 := am_ (hi)) | ((with_reducible refine gk_ 29 ?_); refine gq_ 16 Tryz.func29 #[.pointer (some ⟨g, 0, none⟩), .int .i64 30] ?_; (with_reducible refine (spec_l1Cur_pick.calls g s0_0 t250 t251 30 t252 t253 t254 w0 _ ?_ ?_ A4.out).mono ?_); exact IsS48.q HI0; exact hbI_ HB (IsS48.ge HI0.out); rintro e w75 ⟨rfl, hi, hb, hk⟩; refine ⟨_, rfl, ?_⟩; replace HK := kt_ HK hk; replace HB := am_ (hb); replace HI0 := am_ (hi)) | ((with_reducible refine gate_dst (N := 77) rfl ?_); refine Kd.R_lit k73 _ 73 ?hg (N := 77) ?hd (xs := ([(⟨0, 1⟩ : S73)] : List (S73))) (inner := [.int .i64 0, .int .i64 1]) (ok := fun _ => True) (okp := fun _ => True) ?hr ?hp (fun _ hk => hk) trivial (Below.refl _ _) (Nat.le_refl _) (by simp) ?_; (case hd => rfl); (case hg => rfl); (case hr => first | (go_simp; done) | (go_simp; rfl)); (case hp => exact (Reps.c2 (show Kd.M k73 _ _ _ (⟨0, 1⟩ : S73) [.int .i64 0, .int .i64 1] from (k73_mkM _ _ _ (⟨0, 1⟩ : S73) )) (Reps.none _ _))); intro v291 w76 ho77 hb hg_ hnew_; clear hg_ hnew_; (first | rw [← Ny290.out] at ho77 | (simp only [Int.reduceToNat] at ho77; rw [← Ny290.out] at ho77)); have HO292 := am_ (Kd.R_lower ho77 (keep_size (hk_ HK))); replace HK := hkb_ HK hb; replace HB := am_ (below_step (hbI_ HB (IsS48.ge HI0.out)) hb); replace HI0 := IsS48.b HI0 hb; clear hb ho77) | ((with_reducible refine gk_ 29 ?_); refine gq_ 79 Tryz.func29 #[.pointer (some ⟨g, 0, none⟩), .int .i64 2] ?_; (with_reducible refine (spec_l1Cur_pick.calls g s0_0 t253 t254 2 t293 t294 t295 w0 _ ?_ ?_ A71.out).mono ?_); exact IsS48.q HI0; exact hbI_ HB (IsS48.ge HI0.out); rintro e w78 ⟨rfl, hi, hb, hk⟩; refine ⟨_, rfl, ?_⟩; replace HO292 := IsS48.rk HI0 HO292 hk; replace HK := kt_ HK hk; replace HB := am_ (hb); replace HI0 := am_ (hi)))
  go_loopg [3, 7] k (fun kq v3 v7 w' => ∃ (x3_1 : List (S73)) (x7_1 : Int), v7 = .int .i64 x7_1 ∧ Aside0 (spec_l1Cur_anyRule.l2 kq x3_1 x7_1 s0_0 t294 t295 = some (r1, r2, r3)) ∧ Aside0 (kq ≤ k) ∧ Aside0 (Kd.R k73 73 w' w.heap.size (fun _ => True) v3 x3_1) ∧ Aside0 (IsS48 w0 w' g s0_0 t294 t295) ∧ Aside0 (KeepBut w w' g none) ∧ Aside0 (Below w0.heap.size w0 w'))
  case atStart => exact ⟨(y290), (wrap64 (11 + t293)), sr_, H', ⟨Nat.le_refl _⟩, ⟨Kd.R_p HO292⟩, ⟨IsS48.q HI0⟩, ⟨hk_ HK⟩, ⟨hbI_ HB (IsS48.ge HI0.out)⟩⟩
  clear H'
  obtain ⟨x3_1, x7_1, rfl, HA, HK1, HO_3, HI0, HK, HB⟩ := hrel
  cases gk with
  | zero => exact absurd HA.out (by simp [spec_l1Cur_anyRule.l2])
  | succ k1 => ?_
  have H := HA.out
  clear HA
  simp only [spec_l1Cur_anyRule.l2] at H
  by_cases c79 : x7_1 > 0
  case neg => rw [if_neg c79] at H; have c79b0 : decide (0 < x7_1) = false := decide_eq_false c79; clear c79; simp only [Option.some.injEq, Prod.mk.injEq] at H; obtain ⟨rfl, rfl, rfl⟩ := H; go_wp2; go_ret; (exact ⟨_, se_, Kd.R_p HO_3, IsS48.q HI0, hbI_ HB (IsS48.ge HI0.out), hk_ HK⟩)
  rw [if_pos c79] at H
  have c79b0 : decide (0 < x7_1) = true := decide_eq_true c79
  clear c79
  obtain ⟨y296, hy296⟩ : ∃ y_ : List (S73), y_ = (([(⟨0, 2⟩ : S73), (⟨2, 0⟩ : S73)] : List (S73))) := ⟨_, rfl⟩
  (try with_reducible replace H := (Option.bind_some _ _).symm.trans H); (try dsimp only at H); (try rw [← hy296] at H)
  have Ny296 := am_ hy296
  clear hy296
  revert H; refine pf_ fun c80 H => ?_
  have LMc80 := am_ c80
  clear c80
  obtain ⟨y299, hy299⟩ : ∃ y_ : List (S73), y_ = (x3_1 ++ y296) := ⟨_, rfl⟩
  (try with_reducible replace H := (Option.bind_some _ _).symm.trans H); (try dsimp only at H); (try rw [← hy299] at H)
  have Ny299 := am_ hy299
  clear hy299
  have H' := am_ H
  clear H
  go_wp2_with (first | ((with_reducible refine gate_dst (N := 88) rfl ?_); refine Kd.R_lit k73 _ 73 ?hg (N := 88) ?hd (xs := ([(⟨0, 2⟩ : S73), (⟨2, 0⟩ : S73)] : List (S73))) (inner := [.int .i64 0, .int .i64 2, .int .i64 2, .int .i64 0]) (ok := fun _ => True) (okp := fun _ => True) ?hr ?hp (fun _ hk => hk) trivial (Below.refl _ _) (Nat.le_refl _) (by simp) ?_; (case hd => rfl); (case hg => rfl); (case hr => first | (go_simp; done) | (go_simp; rfl)); (case hp => exact (Reps.c2 (show Kd.M k73 _ _ _ (⟨0, 2⟩ : S73) [.int .i64 0, .int .i64 2] from (k73_mkM _ _ _ (⟨0, 2⟩ : S73) )) (Reps.c2 (show Kd.M k73 _ _ _ (⟨2, 0⟩ : S73) [.int .i64 2, .int .i64 0] from (k73_mkM _ _ _ (⟨2, 0⟩ : S73) )) (Reps.none _ _)))); intro v297 w81 ho82 hb hg_ hnew_; clear hg_ hnew_; (first | rw [← Ny296.out] at ho82 | (simp only [Int.reduceToNat] at ho82; rw [← Ny296.out] at ho82)); have HO298 := am_ (Kd.R_lower (Kd.R_nw ho82 HO_3) (keep_size (hk_ HK))); replace HO_3 := Kd.R_e HO_3 ho82 hb; replace HK := hkb_ HK hb; replace HB := am_ (below_step (hbI_ HB (IsS48.ge HI0.out)) hb); replace HI0 := IsS48.b HI0 hb; clear hb ho82; obtain ⟨Ao84, co84, eo84⟩ := Kd.R_slice HO298.out; subst eo84) | ((with_reducible refine gate_builtin (b := .append) (xs := #[.tmp 85, .tmp 88]) rfl ?_); at_builtin; refine Kd.R_append_rows k73 w.heap.size rfl (.tmp 85) (.tmp 88) 23 73 (.agg #[(.int .i64 0), (.int .i64 0)]) 16 rfl Tryz.underlying23 info73 rfl (by decide) (by omega) u3 x3_1 y296 _ _ _ (fun k_ => some k_ ≠ (.slice Ao84 y296.length co84 : Value).ownBlock) (fun _ => False) rfl rfl ?aO ?aR (fun _ _ h => h) (fun _ h => h.elim) ?aF (Below.refl _ _) ?aS ?aL ?_; (case aR => exact Kd.C_o HO298); (case aF => exact (fun k_ hk => Kd.fresh' (Kd.R_lt (Kd.R_p HO298)) k_ hk)); (case aO => exact (rm_ (h := HO_3.out))); (case aS => exact (keep_size (hk_ HK))); (case aL => have := LMc80.out; omega); intro v300 w83 ho hb hg hat; rw [← Ny299.out] at ho; have HO301 := am_ (ho); replace HO298 := am_ (Kd.R_after (ok := (fun _ => True)) (Kd.R_p HO298) hg hat); replace HB := am_ (below_weaken (hbI_ HB (IsS48.ge HI0.out)) HL.out hb); replace HK := am_ (KeepBut.trans (hk_ HK) (KeepBut.of_grown hg g) (Kd.R_base2 HO_3.out)); replace HI0 := am_ (IsS48.grown (IsS48.q HI0) hg (IsS48.own_ne HI0.out HO_3.out (by decide))); clear HO_3; clear ho hb hg hat))
  go_roundg k1
  case measure => have := HK1.out; omega
  case rel => exact ⟨(y299), (wrap64 (x7_1 - 1)), sr_, H', ⟨by have := HK1.out; omega⟩, ⟨rm_ (h := HO301.out)⟩, ⟨IsS48.q HI0⟩, ⟨hk_ HK⟩, ⟨hbI_ HB (IsS48.ge HI0.out)⟩⟩
 rw [if_neg c70] at H
 have c70b0 : (t252 == 5) = false := beq_eq_false_iff_ne.mpr c70
 have c70b1 : (t252 != 5) = true := bne_iff_ne.mpr c70
 by_cases c85 : t252 = 6
 ·rw [if_pos c85] at H
  have c85b0 : (t252 == 6) = true := beq_iff_eq.mpr c85
  have c85b1 : (t252 != 6) = false := bne_eq_false_iff_eq.mpr c85
  clear c85
  obtain ⟨y302, hy302⟩ : ∃ y_ : List (S73), y_ = (([(⟨0, 0⟩ : S73), (⟨0, 0⟩ : S73), (⟨0, 0⟩ : S73), (⟨0, 0⟩ : S73), (⟨7, 0⟩ : S73)] : List (S73))) := ⟨_, rfl⟩
  (try with_reducible replace H := (Option.bind_some _ _).symm.trans H); (try dsimp only at H); (try rw [← hy302] at H)
  have Ny302 := am_ hy302
  clear hy302
  revert H; refine bn_ ?_; rintro ⟨t305, t306, t307⟩ A86 H; try dsimp only at H
  have H' := am_ H
  clear H
  go_enter Tryz.func36, Tryz.ntmps36
  go_wp2_with (first | ((with_reducible refine gk_ 57 ?_); refine gq_ 10 Tryz.func57 #[.pointer (some ⟨g, 0, none⟩)] ?_; (with_reducible refine (spec_l1Cur_rule.calls k g s0_0 s0_1 s0_2 t244 t247 t248 w0 _ ?_ ?_ A2.out).mono ?_); exact IsS48.q HI0; exact hbI_ HB (IsS48.ge HI0.out); rintro e w87 ⟨v245, rfl, ho0, hi, hb, hk⟩; refine ⟨_, rfl, ?_⟩; have HO246 := am_ (Kd.R_lower ho0 (keep_size (hk_ HK))); replace HK := kt_ HK hk; replace HB := am_ (hb); replace HI0 := am_ (hi); obtain ⟨Ao88, co88, eo88⟩ := Kd.R_slice HO246.out; subst eo88; try clear HO246) | ((with_reducible refine gk_ 29 ?_); refine gq_ 14 Tryz.func29 #[.pointer (some ⟨g, 0, none⟩), .int .i64 (t244.length : Int)] ?_; (with_reducible refine (spec_l1Cur_pick.calls g s0_0 t247 t248 (t244.length : Int) t249 t250 t251 w0 _ ?_ ?_ A3.out).mono ?_); exact IsS48.q HI0; exact hbI_ HB (IsS48.ge HI0.out); rintro e w89 ⟨rfl, hi, hb, hk⟩; refine ⟨_, rfl, ?_⟩; replace HK := kt_ HK hk; replace HB := am_ (hb); replace HI0 := am_ (hi)) | ((with_reducible refine gk_ 29 ?_); refine gq_ 16 Tryz.func29 #[.pointer (some ⟨g, 0, none⟩), .int .i64 30] ?_; (with_reducible refine (spec_l1Cur_pick.calls g s0_0 t250 t251 30 t252 t253 t254 w0 _ ?_ ?_ A4.out).mono ?_); exact IsS48.q HI0; exact hbI_ HB (IsS48.ge HI0.out); rintro e w90 ⟨rfl, hi, hb, hk⟩; refine ⟨_, rfl, ?_⟩; replace HK := kt_ HK hk; replace HB := am_ (hb); replace HI0 := am_ (hi)) | ((with_reducible refine gate_dst (N := 97) rfl ?_); refine Kd.R_lit k73 _ 73 ?hg (N := 97) ?hd (xs := ([(⟨0, 0⟩ : S73), (⟨0, 0⟩ : S73), (⟨0, 0⟩ : S73), (⟨0, 0⟩ : S73), (⟨7, 0⟩ : S73)] : List (S73))) (inner := [.int .i64 0, .int .i64 0, .int .i64 0, .int .i64 0, .int .i64 0, .int .i64 0, .int .i64 0, .int .i64 0, .int .i64 7, .int .i64 0]) (ok := fun _ => True) (okp := fun _ => True) ?hr ?hp (fun _ hk => hk) trivial (Below.refl _ _) (Nat.le_refl _) (by simp) ?_; (case hd => rfl); (case hg => rfl); (case hr => first | (go_simp; done) | (go_simp; rfl)); (case hp => exact (Reps.c2 (show Kd.M k73 _ _ _ (⟨0, 0⟩ : S73) [.int .i64 0, .int .i64 0] from (k73_mkM _ _ _ (⟨0, 0⟩ : S73) )) (Reps.c2 (show Kd.M k73 _ _ _ (⟨0, 0⟩ : S73) [.int .i64 0, .int .i64 0] from (k73_mkM _ _ _ (⟨0, 0⟩ : S73) )) (Reps.c2 (show Kd.M k73 _ _ _ (⟨0, 0⟩ : S73) [.int .i64 0, .int .i64 0] from (k73_mkM _ _ _ (⟨0, 0⟩ : S73) )) (Reps.c2 (show Kd.M k73 _ _ _ (⟨0, 0⟩ : S73) [.int .i64 0, .int .i64 0] from (k73_mkM _ _ _ (⟨0, 0⟩ : S73) )) (Reps.c2 (show Kd.M k73 _ _ _ (⟨7, 0⟩ : S73) [.int .i64 7, .int .i64 0] from (k73_mkM _ _ _ (⟨7, 0⟩ : S73) )) (Reps.none _ _))))))); intro v303 w91 ho92 hb hg_ hnew_; clear hg_ hnew_; (first | rw [← Ny302.out] at ho92 | (simp only [Int.reduceToNat] at ho92; rw [← Ny302.out] at ho92)); have HO304 := am_ (Kd.R_lower ho92 (keep_size (hk_ HK))); replace HK := hkb_ HK hb; replace HB := am_ (below_step (hbI_ HB (IsS48.ge HI0.out)) hb); replace HI0 := IsS48.b HI0 hb; clear hb ho92) | ((with_reducible refine gk_ 29 ?_); refine gq_ 99 Tryz.func29 #[.pointer (some ⟨g, 0, none⟩), .int .i64 2] ?_; (with_reducible refine (spec_l1Cur_pick.calls g s0_0 t253 t254 2 t305 t306 t307 w0 _ ?_ ?_ A86.out).mono ?_); exact IsS48.q HI0; exact hbI_ HB (IsS48.ge HI0.out); rintro e w93 ⟨rfl, hi, hb, hk⟩; refine ⟨_, rfl, ?_⟩; replace HO304 := IsS48.rk HI0 HO304 hk; replace HK := kt_ HK hk; replace HB := am_ (hb); replace HI0 := am_ (hi)))
  go_loopg [3, 8] k (fun kq v3 v8 w' => ∃ (x3_1 : List (S73)) (x8_1 : Int), v8 = .int .i64 x8_1 ∧ Aside0 (spec_l1Cur_anyRule.l3 kq x3_1 x8_1 s0_0 t306 t307 = some (r1, r2, r3)) ∧ Aside0 (kq ≤ k) ∧ Aside0 (Kd.R k73 73 w' w.heap.size (fun _ => True) v3 x3_1) ∧ Aside0 (IsS48 w0 w' g s0_0 t306 t307) ∧ Aside0 (KeepBut w w' g none) ∧ Aside0 (Below w0.heap.size w0 w'))
  case atStart => exact ⟨(y302), (wrap64 (8 + t305)), sr_, H', ⟨Nat.le_refl _⟩, ⟨Kd.R_p HO304⟩, ⟨IsS48.q HI0⟩, ⟨hk_ HK⟩, ⟨hbI_ HB (IsS48.ge HI0.out)⟩⟩
  clear H'
  obtain ⟨x3_1, x8_1, rfl, HA, HK1, HO_3, HI0, HK, HB⟩ := hrel
  cases gk with
  | zero => exact absurd HA.out (by simp [spec_l1Cur_anyRule.l3])
  | succ k1 => ?_
  have H := HA.out
  clear HA
  simp only [spec_l1Cur_anyRule.l3] at H
  by_cases c94 : x8_1 > 0
  ·rw [if_pos c94] at H
   have c94b0 : decide (0 < x8_1) = true := decide_eq_true c94
   clear c94
   obtain ⟨y308, hy308⟩ : ∃ y_ : List (S73), y_ = (([(⟨0, 0⟩ : S73), (⟨0, 0⟩ : S73), (⟨0, 0⟩ : S73), (⟨6, 0⟩ : S73)] : List (S73))) := ⟨_, rfl⟩
   (try with_reducible replace H := (Option.bind_some _ _).symm.trans H); (try dsimp only at H); (try rw [← hy308] at H)
   have Ny308 := am_ hy308
   clear hy308
   revert H; refine pf_ fun c95 H => ?_
   have LMc95 := am_ c95
   clear c95
   obtain ⟨y311, hy311⟩ : ∃ y_ : List (S73), y_ = (x3_1 ++ y308) := ⟨_, rfl⟩
   (try with_reducible replace H := (Option.bind_some _ _).symm.trans H); (try dsimp only at H); (try rw [← hy311] at H)
   have Ny311 := am_ hy311
   clear hy311
   have H' := am_ H
   clear H
   go_wp2_with (first | ((with_reducible refine gate_dst (N := 110) rfl ?_); refine Kd.R_lit k73 _ 73 ?hg (N := 110) ?hd (xs := ([(⟨0, 0⟩ : S73), (⟨0, 0⟩ : S73), (⟨0, 0⟩ : S73), (⟨6, 0⟩ : S73)] : List (S73))) (inner := [.int .i64 0, .int .i64 0, .int .i64 0, .int .i64 0, .int .i64 0, .int .i64 0, .int .i64 6, .int .i64 0]) (ok := fun _ => True) (okp := fun _ => True) ?hr ?hp (fun _ hk => hk) trivial (Below.refl _ _) (Nat.le_refl _) (by simp) ?_; (case hd => rfl); (case hg => rfl); (case hr => first | (go_simp; done) | (go_simp; rfl)); (case hp => exact (Reps.c2 (show Kd.M k73 _ _ _ (⟨0, 0⟩ : S73) [.int .i64 0, .int .i64 0] from (k73_mkM _ _ _ (⟨0, 0⟩ : S73) )) (Reps.c2 (show Kd.M k73 _ _ _ (⟨0, 0⟩ : S73) [.int .i64 0, .int .i64 0] from (k73_mkM _ _ _ (⟨0, 0⟩ : S73) )) (Reps.c2 (show Kd.M k73 _ _ _ (⟨0, 0⟩ : S73) [.int .i64 0, .int .i64 0] from (k73_mkM _ _ _ (⟨0, 0⟩ : S73) )) (Reps.c2 (show Kd.M k73 _ _ _ (⟨6, 0⟩ : S73) [.int .i64 6, .int .i64 0] from (k73_mkM _ _ _ (⟨6, 0⟩ : S73) )) (Reps.none _ _)))))); intro v309 w96 ho97 hb hg_ hnew_; clear hg_ hnew_; (first | rw [← Ny308.out] at ho97 | (simp only [Int.reduceToNat] at ho97; rw [← Ny308.out] at ho97)); have HO310 := am_ (Kd.R_lower (Kd.R_nw ho97 HO_3) (keep_size (hk_ HK))); replace HO_3 := Kd.R_e HO_3 ho97 hb; replace HK := hkb_ HK hb; replace HB := am_ (below_step (hbI_ HB (IsS48.ge HI0.out)) hb); replace HI0 := IsS48.b HI0 hb; clear hb ho97; obtain ⟨Ao99, co99, eo99⟩ := Kd.R_slice HO310.out; subst eo99) | ((with_reducible refine gate_builtin (b := .append) (xs := #[.tmp 105, .tmp 110]) rfl ?_); at_builtin; refine Kd.R_append_rows k73 w.heap.size rfl (.tmp 105) (.tmp 110) 23 73 (.agg #[(.int .i64 0), (.int .i64 0)]) 16 rfl Tryz.underlying23 info73 rfl (by decide) (by omega) u3 x3_1 y308 _ _ _ (fun k_ => some k_ ≠ (.slice Ao99 y308.length co99 : Value).ownBlock) (fun _ => False) rfl rfl ?aO ?aR (fun _ _ h => h) (fun _ h => h.elim) ?aF (Below.refl _ _) ?aS ?aL ?_; (case aR => exact Kd.C_o HO310); (case aF => exact (fun k_ hk => Kd.fresh' (Kd.R_lt (Kd.R_p HO310)) k_ hk)); (case aO => exact (rm_ (h := HO_3.out))); (case aS => exact (keep_size (hk_ HK))); (case aL => have := LMc95.out; omega); intro v312 w98 ho hb hg hat; rw [← Ny311.out] at ho; have HO313 := am_ (ho); replace HO310 := am_ (Kd.R_after (ok := (fun _ => True)) (Kd.R_p HO310) hg hat); replace HB := am_ (below_weaken (hbI_ HB (IsS48.ge HI0.out)) HL.out hb); replace HK := am_ (KeepBut.trans (hk_ HK) (KeepBut.of_grown hg g) (Kd.R_base2 HO_3.out)); replace HI0 := am_ (IsS48.grown (IsS48.q HI0) hg (IsS48.own_ne HI0.out HO_3.out (by decide))); clear HO_3; clear ho hb hg hat))
   go_roundg k1
   case measure => have := HK1.out; omega
   case rel => exact ⟨(y311), (wrap64 (x8_1 - 1)), sr_, H', ⟨by have := HK1.out; omega⟩, ⟨rm_ (h := HO313.out)⟩, ⟨IsS48.q HI0⟩, ⟨hk_ HK⟩, ⟨hbI_ HB (IsS48.ge HI0.out)⟩⟩
  rw [if_neg c94] at H
  have c94b0 : decide (0 < x8_1) = false := decide_eq_false c94
  clear c94
  have H' := am_ H
  clear H
  go_wp2
  go_loopg [3] k1 (fun kq v3 w' => ∃ (x3_2 : List (S73)), Aside0 (spec_l1Cur_anyRule.l4 kq x3_2 s0_0 t306 t307 = some (r1, r2, r3)) ∧ Aside0 (kq ≤ k1) ∧ Aside0 (Kd.R k73 73 w' w.heap.size (fun _ => True) v3 x3_2) ∧ Aside0 (IsS48 w0 w' g s0_0 t306 t307) ∧ Aside0 (KeepBut w w' g none) ∧ Aside0 (Below w0.heap.size w0 w'))
  case atStart => exact ⟨(x3_1), H', ⟨Nat.le_refl _⟩, ⟨Kd.R_p HO_3⟩, ⟨IsS48.q HI0⟩, ⟨hk_ HK⟩, ⟨hbI_ HB (IsS48.ge HI0.out)⟩⟩
  clear H'
  obtain ⟨x3_2, HA, HK2, HO_3, HI0, HK, HB⟩ := hrel
  cases gk with
  | zero => exact absurd HA.out (by simp [spec_l1Cur_anyRule.l4])
  | succ k2 => ?_
  have H := HA.out
  clear HA
  simp only [spec_l1Cur_anyRule.l4] at H
  by_cases c100 : (x3_2.length : Int) < 39
  ·rw [if_pos c100] at H
   have c100b0 := decide_eq_true c100
   have c100b1 : decide (x3_2.length < 39) = true := decide_eq_true (by omega)
   clear c100
   obtain ⟨y314, hy314⟩ : ∃ y_ : List (S73), y_ = (([(⟨0, 0⟩ : S73), (⟨2, 0⟩ : S73)] : List (S73))) := ⟨_, rfl⟩
   (try with_reducible replace H := (Option.bind_some _ _).symm.trans H); (try dsimp only at H); (try rw [← hy314] at H)
   have Ny314 := am_ hy314
   clear hy314
   revert H; refine pf_ fun c101 H => ?_
   have LMc101 := am_ c101
   clear c101
   obtain ⟨y317, hy317⟩ : ∃ y_ : List (S73), y_ = (x3_2 ++ y314) := ⟨_, rfl⟩
   (try with_reducible replace H := (Option.bind_some _ _).symm.trans H); (try dsimp only at H); (try rw [← hy317] at H)
   have Ny317 := am_ hy317
   clear hy317
   have H' := am_ H
   clear H
   obtain ⟨Ao102, co102, eo102⟩ := Kd.R_slice HO_3.out
   subst eo102
   go_wp2_with (first | ((with_reducible refine gate_dst (N := 118) rfl ?_); refine Kd.R_lit k73 _ 73 ?hg (N := 118) ?hd (xs := ([(⟨0, 0⟩ : S73), (⟨2, 0⟩ : S73)] : List (S73))) (inner := [.int .i64 0, .int .i64 0, .int .i64 2, .int .i64 0]) (ok := fun _ => True) (okp := fun _ => True) ?hr ?hp (fun _ hk => hk) trivial (Below.refl _ _) (Nat.le_refl _) (by simp) ?_; (case hd => rfl); (case hg => rfl); (case hr => first | (go_simp; done) | (go_simp; rfl)); (case hp => exact (Reps.c2 (show Kd.M k73 _ _ _ (⟨0, 0⟩ : S73) [.int .i64 0, .int .i64 0] from (k73_mkM _ _ _ (⟨0, 0⟩ : S73) )) (Reps.c2 (show Kd.M k73 _ _ _ (⟨2, 0⟩ : S73) [.int .i64 2, .int .i64 0] from (k73_mkM _ _ _ (⟨2, 0⟩ : S73) )) (Reps.none _ _)))); intro v315 w103 ho104 hb hg_ hnew_; clear hg_ hnew_; (first | rw [← Ny314.out] at ho104 | (simp only [Int.reduceToNat] at ho104; rw [← Ny314.out] at ho104)); have HO316 := am_ (Kd.R_lower (Kd.R_nw ho104 HO_3) (keep_size (hk_ HK))); replace HO_3 := Kd.R_e HO_3 ho104 hb; replace HK := hkb_ HK hb; replace HB := am_ (below_step (hbI_ HB (IsS48.ge HI0.out)) hb); replace HI0 := IsS48.b HI0 hb; clear hb ho104; obtain ⟨Ao106, co106, eo106⟩ := Kd.R_slice HO316.out; subst eo106) | ((with_reducible refine gate_builtin (b := .append) (xs := #[.tmp 115, .tmp 118]) rfl ?_); at_builtin; refine Kd.R_append_rows k73 w.heap.size rfl (.tmp 115) (.tmp 118) 23 73 (.agg #[(.int .i64 0), (.int .i64 0)]) 16 rfl Tryz.underlying23 info73 rfl (by decide) (by omega) (.slice Ao102 x3_2.length co102) x3_2 y314 _ _ _ (fun k_ => some k_ ≠ (.slice Ao106 y314.length co106 : Value).ownBlock) (fun _ => False) rfl rfl ?aO ?aR (fun _ _ h => h) (fun _ h => h.elim) ?aF (Below.refl _ _) ?aS ?aL ?_; (case aR => exact Kd.C_o HO316); (case aF => exact (fun k_ hk => Kd.fresh' (Kd.R_lt (Kd.R_p HO316)) k_ hk)); (case aO => exact (rm_ (h := HO_3.out))); (case aS => exact (keep_size (hk_ HK))); (case aL => have := LMc101.out; omega); intro v318 w105 ho hb hg hat; rw [← Ny317.out] at ho; have HO319 := am_ (ho); replace HO316 := am_ (Kd.R_after (ok := (fun _ => True)) (Kd.R_p HO316) hg hat); replace HB := am_ (below_weaken (hbI_ HB (IsS48.ge HI0.out)) HL.out hb); replace HK := am_ (KeepBut.trans (hk_ HK) (KeepBut.of_grown hg g) (Kd.R_base2 HO_3.out)); replace HI0 := am_ (IsS48.grown (IsS48.q HI0) hg (IsS48.own_ne HI0.out HO_3.out (by decide))); clear HO_3; clear ho hb hg hat))
   go_roundg k2
   case measure => have := HK1.out; have := HK2.out; omega
   case rel => exact ⟨(y317), H', ⟨by have := HK1.out; have := HK2.out; omega⟩, ⟨rm_ (h := HO319.out)⟩, ⟨IsS48.q HI0⟩, ⟨hk_ HK⟩, ⟨hbI_ HB (IsS48.ge HI0.out)⟩⟩
  rw [if_neg c100] at H
  have c100b0 := decide_eq_false c100
  have c100b1 : decide (x3_2.length < 39) = false := decide_eq_false (by omega)
  clear c100
  simp only [Option.some.injEq, Prod.mk.injEq] at H
  obtain ⟨rfl, rfl, rfl⟩ := H
  obtain ⟨Ao107, co107, eo107⟩ := Kd.R_slice HO_3.out
  subst eo107
  go_wp2
  go_ret
  exact ⟨_, se_, Kd.R_p HO_3, IsS48.q HI0, hbI_ HB (IsS48.ge HI0.out), hk_ HK⟩
 rw [if_neg c85] at H
 have c85b0 : (t252 == 6) = false := beq_eq_false_iff_ne.mpr c85
 have c85b1 : (t252 != 6) = true := bne_iff_ne.mpr c85
 simp only [Option.some.injEq, Prod.mk.injEq] at H
 obtain ⟨rfl, rfl, rfl⟩ := H
 go_enter Tryz.func36, Tryz.ntmps36
 go_wp2_with (first | ((with_reducible refine gk_ 57 ?_); refine gq_ 10 Tryz.func57 #[.pointer (some ⟨g, 0, none⟩)] ?_; (with_reducible refine (spec_l1Cur_rule.calls k g s0_0 s0_1 s0_2 t244 t247 t248 w0 _ ?_ ?_ A2.out).mono ?_); exact IsS48.q HI0; exact hbI_ HB (IsS48.ge HI0.out); rintro e w108 ⟨v245, rfl, ho0, hi, hb, hk⟩; refine ⟨_, rfl, ?_⟩; have HO246 := am_ (Kd.R_lower ho0 (keep_size (hk_ HK))); replace HK := kt_ HK hk; replace HB := am_ (hb); replace HI0 := am_ (hi); obtain ⟨Ao109, co109, eo109⟩ := Kd.R_slice HO246.out; subst eo109) | ((with_reducible refine gk_ 29 ?_); refine gq_ 14 Tryz.func29 #[.pointer (some ⟨g, 0, none⟩), .int .i64 (t244.length : Int)] ?_; (with_reducible refine (spec_l1Cur_pick.calls g s0_0 t247 t248 (t244.length : Int) t249 t250 t251 w0 _ ?_ ?_ A3.out).mono ?_); exact IsS48.q HI0; exact hbI_ HB (IsS48.ge HI0.out); rintro e w110 ⟨rfl, hi, hb, hk⟩; refine ⟨_, rfl, ?_⟩; replace HO246 := IsS48.rk HI0 HO246 hk; replace HK := kt_ HK hk; replace HB := am_ (hb); replace HI0 := am_ (hi)) | ((with_reducible refine gk_ 29 ?_); refine gq_ 16 Tryz.func29 #[.pointer (some ⟨g, 0, none⟩), .int .i64 30] ?_; (with_reducible refine (spec_l1Cur_pick.calls g s0_0 t250 t251 30 t252 t253 t254 w0 _ ?_ ?_ A4.out).mono ?_); exact IsS48.q HI0; exact hbI_ HB (IsS48.ge HI0.out); rintro e w111 ⟨rfl, hi, hb, hk⟩; refine ⟨_, rfl, ?_⟩; replace HO246 := IsS48.rk HI0 HO246 hk; replace HK := kt_ HK hk; replace HB := am_ (hb); replace HI0 := am_ (hi)))
 go_ret
 exact ⟨_, se_, Kd.R_p HO246, IsS48.q HI0, hbI_ HB (IsS48.ge HI0.out), hk_ HK⟩

end Go.Proofs.YtihjlepgmppedaaGreatDoor.PFnRules
