-- Laid for this claim by wip/tools/print2.sh, a changed copy of the kit's print (wip/tools/patch_print.py): not by print.sh.
import Derived.Test.YtihjlepgmppedaaGreatDoorPFnRulesx1
import Derived.Test.YtihjlepgmppedaaGreatDoorPFnRulesx15
import Derived.Test.YtihjlepgmppedaaGreatDoorVFnRules
namespace Go.Proofs.YtihjlepgmppedaaGreatDoor.PFnRules
set_option maxHeartbeats 8000000
set_option maxRecDepth 100000
open Go.RowKit Go.Proofs.YtihjlepgmppedaaGreatDoorW.PrintWords Go.Proofs.YtihjlepgmppedaaGreatDoorW.PrintLast Go.Proofs.YtihjlepgmppedaaGreatDoorW.PrintMore
set_option linter.unusedVariables false
set_option linter.unusedSimpArgs false

attribute [local go_sem high] eqA73
/-! ### impl_RightWords: function 10 -/
def impl_RightWords.f (k : Nat) (a0 : ByteArray) : Option (Int × Bool) :=
 if 600 < a0.size then some (0, false) else (iRun k a0).bind fun r => some ((r.2.1 : Int), true)
theorem impl_RightWords.calls (k : Nat) (a0 : ByteArray) (r1 : Int) (r2 : Bool) (w : World) (h : impl_RightWords.f k a0 = some (r1, r2)) (hL : LaidW w) :
  Calls Tryz.prog 10 #[.string a0] w fun e w' => e = .returned (.tuple #[.int .i64 r1, .bool r2]) ∧ Below w.heap.size w w' := by
 unfold impl_RightWords.f at h
 by_cases hl : 600 < a0.size
 ·rw [if_pos hl] at h
  simp only [Option.some.injEq, Prod.mk.injEq] at h
  obtain ⟨rfl, rfl⟩ := h
  have d1 : decide ((600 : Int) < (a0.size : Int)) = true := decide_eq_true (by omega)
  have d2 : decide (600 < a0.size) = true := decide_eq_true hl
  clear hl
  go_enter Tryz.func10, Tryz.ntmps10
  go_wp2
  go_ret2
  exact ⟨rfl, Below.refl _ _⟩
 rw [if_neg hl] at h
 have d1 : decide ((600 : Int) < (a0.size : Int)) = false := decide_eq_false (by omega)
 have d2 : decide (600 < a0.size) = false := decide_eq_false hl
 clear hl
 obtain ⟨⟨ws, j, o, f⟩, e1, h⟩ := Option.bind_eq_some_iff.mp h
 unfold iRun at e1
 obtain ⟨ws', es, e1⟩ := Option.bind_eq_some_iff.mp e1
 by_cases hw : ws'.length ≤ 1000
 case neg => rw [if_neg hw] at e1; cases e1
 rw [if_pos hw] at e1
 obtain ⟨⟨j', o', f'⟩, er, e1⟩ := Option.bind_eq_some_iff.mp e1
 simp only [Option.some.injEq, Prod.mk.injEq] at e1
 obtain ⟨rfl, rfl, rfl, rfl⟩ := e1
 have ES := am_ es
 have ER := am_ er
 have HW := am_ hw
 have HL := am_ hL
 have HR := am_ (iAll k k (Nat.le_refl k)).2.2.2
 clear es er hw hL
 dsimp only at h
 simp only [Option.some.injEq, Prod.mk.injEq] at h
 obtain ⟨rfl, rfl⟩ := h
 go_enter Tryz.func10, Tryz.ntmps10
 go_wp2_with (first | ((with_reducible refine gk_ 33 ?_); refine gq_ 9 Tryz.func33 #[.string a0, .string ⟨#[32]⟩] ?_; (with_reducible refine (strings_Split.calls a0 (⟨#[32]⟩ : ByteArray) ws' _ ES.out HL.out).mono ?_); rintro e w1 ⟨v1, rfl, ho_, hbq_⟩; refine ⟨_, rfl, ?_⟩; obtain ⟨Af, cf, ef⟩ := Kd.R_slice ho_; subst ef; have HI := am_ (IP.start ho_ hbq_ HW.out HL.out); clear ho_ hbq_) | ((with_reducible refine gk_ 34 ?_); refine gq_ 11 Tryz.func34 #[.pointer (some ⟨w1.heap.size, 0, none⟩)] ?_; refine (HR.out w _ w1.heap.size ws' 0 0 [] false j' o' f' ?sd ER.out).mono ?_; (case sd => exact HI.out); rintro e w2 ⟨rfl, hr_⟩; refine ⟨_, rfl, ?_⟩; replace HI := am_ hr_; clear hr_; obtain ⟨x, Aw, cw, Ap, cp, HX, hx0, hx1, hd0, hd1, hd2, hd3, hf1, hf2, hf3, HO⟩ := HI.out.read))
 go_ret2
 exact ⟨by rw [HX.out]; rfl, HI.out.1.2.1⟩

/-! ### spec_RightWords: function 11 -/
def spec_RightWords.f (k : Nat) (a0 : ByteArray) : Option (Int × Bool) :=
 if 600 < a0.size then some (0, false) else (ruRun k a0).bind fun r => some ((r.1 : Int), true)
theorem spec_RightWords.calls (k : Nat) (a0 : ByteArray) (r1 : Int) (r2 : Bool) (w : World) (h : spec_RightWords.f k a0 = some (r1, r2)) :
  Calls Tryz.prog 11 #[.string a0] w fun e w' => e = .returned (.tuple #[.int .i64 r1, .bool r2]) ∧ Below w.heap.size w w' := by
 unfold spec_RightWords.f at h
 by_cases hl : 600 < a0.size
 ·rw [if_pos hl] at h
  simp only [Option.some.injEq, Prod.mk.injEq] at h
  obtain ⟨rfl, rfl⟩ := h
  have d1 : decide ((600 : Int) < (a0.size : Int)) = true := decide_eq_true (by omega)
  have d2 : decide (600 < a0.size) = true := decide_eq_true hl
  clear hl
  go_enter Tryz.func11, Tryz.ntmps11
  go_wp2
  go_ret2
  exact ⟨rfl, Below.refl _ _⟩
 rw [if_neg hl] at h
 have d1 : decide ((600 : Int) < (a0.size : Int)) = false := decide_eq_false (by omega)
 have d2 : decide (600 < a0.size) = false := decide_eq_false hl
 clear hl
 obtain ⟨⟨j, o, ok⟩, e1, h⟩ := Option.bind_eq_some_iff.mp h
 have E1 := am_ e1
 clear e1
 simp only [Option.some.injEq, Prod.mk.injEq] at h
 obtain ⟨rfl, rfl⟩ := h
 go_enter Tryz.func11, Tryz.ntmps11
 go_wp2_with (first | ((with_reducible refine gk_ 35 ?_); refine gq_ 11 Tryz.func35 #[.string a0] ?_; (with_reducible refine (ruParse_calls k a0 j o ok _ E1.out).mono ?_); rintro e w1 ⟨g, ws, rfl, hr_⟩; refine ⟨_, rfl, ?_⟩; have HI := am_ hr_; clear hr_; obtain ⟨x, A0, c0, HX, hx0, hx1, hd0, hd1, hf1⟩ := HI.out.read))
 go_ret2
 exact ⟨by rw [HX.out]; rfl, HI.out.2.1⟩


/-! ### spec_DrawSizeOfPart: function 12 -/
def spec_DrawSizeOfPart.f (k : Nat) (l0 : List Int) : Option ((List (S73)) × Int) := (spec_l1Cur_anyRule.f k l0 0 0).bind fun bt468 => ((spec_l1Cur_pick.f l0 bt468.2.1 bt468.2.2 (wrap64 ((bt468.1.length : Int) + 1))).bind fun bt473 => ((spec_l1Cur_pick.f l0 bt473.2.1 bt473.2.2 20).bind fun bt476 => (some (bt468.1, wrap64 (bt473.1 - (wrap64 (Int.tdiv bt476.1 19)))))))
theorem spec_DrawSizeOfPart.calls (k : Nat) (A0 : Option Addr) (c0 : Nat) (l0 : List Int) (r1 : List (S73)) (r2 : Int) (w : World) (hr0 : Kd.C (Kd.int .u8) w A0 l0.length l0) (hc0 : l0.length ≤ c0) (h : spec_DrawSizeOfPart.f k l0 = some (r1, r2)) :
  Calls Tryz.prog 12 #[.slice A0 l0.length c0] w fun e w' => ∃ v0_ : Value, e = .returned (.tuple #[v0_, .int .i64 r2]) ∧ Kd.R k73 73 w' w.heap.size (fun _ => True) v0_ r1 ∧ Below w.heap.size w w' := by
 have hu48 := Tryz.underlying48
 have HR0 := am_ hr0
 have HC0 := am_ hc0
 clear hr0 hc0
 have HB := am_ (Below.refl w.heap.size w)
 have H := h
 unfold spec_DrawSizeOfPart.f at H
 clear h
 revert H; refine bn_ ?_; rintro ⟨t468, t471, t472⟩ A2 H; try dsimp only at H
 revert H; refine bn_ ?_; rintro ⟨t473, t474, t475⟩ A3 H; try dsimp only at H
 revert H; refine bn_ ?_; rintro ⟨t476, t477, t478⟩ A4 H; try dsimp only at H
 simp only [Option.some.injEq, Prod.mk.injEq] at H
 obtain ⟨rfl, rfl⟩ := H
 go_enter Tryz.func12, Tryz.ntmps12
 go_wp2_with (first | ((with_reducible refine gate_dst (N := 8) rfl ?_); refine bv_ 8 (cs := #[.slice A0 l0.length c0, .int .i64 0, .int .u64 0]) (t := 48) ?_; intro gb467 hg w5 hbox hb; have HI467 := am_ ((show IsS48 w w5 gb467 l0 0 0 from ⟨A0, c0, hbox, (by rw [hg]; exact (below_size (hb_ HB))), HR0.out⟩)); have GW467 := gs_ hg HB; have GE467 := gs_ hg HB; replace HB := hbs_ HB hb; clear hb hbox hg) | ((with_reducible refine gk_ 36 ?_); refine gq_ 10 Tryz.func36 #[.pointer (some ⟨gb467, 0, none⟩)] ?_; (with_reducible refine (spec_l1Cur_anyRule.calls k gb467 l0 0 0 t468 t471 t472 w _ ?_ ?_ A2.out).mono ?_); exact IsS48.q HI467; exact hbI_ HB (IsS48.ge HI467.out); rintro e w6 ⟨v469, rfl, ho0, hi, hb, hk⟩; refine ⟨_, rfl, ?_⟩; have HO470 := am_ (Kd.R_lower ho0 (below_size (hbI_ HB (IsS48.ge HI467.out)))); replace HB := am_ (hb); replace HI467 := am_ (hi); obtain ⟨Ao7, co7, eo7⟩ := Kd.R_slice HO470.out; subst eo7) | ((with_reducible refine gk_ 29 ?_); refine gq_ 16 Tryz.func29 #[.pointer (some ⟨gb467, 0, none⟩), .int .i64 (wrap64 ((t468.length : Int) + 1))] ?_; (with_reducible refine (spec_l1Cur_pick.calls gb467 l0 t471 t472 (wrap64 ((t468.length : Int) + 1)) t473 t474 t475 w _ ?_ ?_ A3.out).mono ?_); exact IsS48.q HI467; exact hbI_ HB (IsS48.ge HI467.out); rintro e w8 ⟨rfl, hi, hb, hk⟩; refine ⟨_, rfl, ?_⟩; replace HO470 := IsS48.rk HI467 HO470 hk; replace HB := am_ (hb); replace HI467 := am_ (hi)) | ((with_reducible refine gk_ 29 ?_); refine gq_ 18 Tryz.func29 #[.pointer (some ⟨gb467, 0, none⟩), .int .i64 20] ?_; (with_reducible refine (spec_l1Cur_pick.calls gb467 l0 t474 t475 20 t476 t477 t478 w _ ?_ ?_ A4.out).mono ?_); exact IsS48.q HI467; exact hbI_ HB (IsS48.ge HI467.out); rintro e w9 ⟨rfl, hi, hb, hk⟩; refine ⟨_, rfl, ?_⟩; replace HO470 := IsS48.rk HI467 HO470 hk; replace HB := am_ (hb); replace HI467 := am_ (hi)))
 go_ret2
 exact ⟨_, se_, Kd.R_p HO470, hbI_ HB (IsS48.ge HI467.out)⟩

/-! ### impl_SizeOfPart: function 13 -/
def impl_SizeOfPart.f (k : Nat) (l0 : List (S73)) (a1 : Int) : Option (Int × Bool) := (impl_isRule.f k l0).bind fun t479 => (if t479 = true then (if a1 < 0 then (some (0, false)) else (if a1 ≥ (l0.length : Int) then (some (0, false)) else ((impl_partSize.f k l0 a1).bind fun t480 => (some (t480, true))))) else (some (0, false)))
theorem impl_SizeOfPart.calls (k : Nat) (A0 : Option Addr) (c0 : Nat) (l0 : List (S73)) (a1 : Int) (r1 : Int) (r2 : Bool) (w : World) (hr0 : Kd.C k73 w A0 l0.length l0) (hc0 : l0.length ≤ c0) (h : impl_SizeOfPart.f k l0 a1 = some (r1, r2)) :
  Calls Tryz.prog 13 #[.slice A0 l0.length c0, .int .i64 a1] w fun e w' => e = .returned (.tuple #[.int .i64 r1, .bool r2]) ∧ Below w.heap.size w w' := by
 have HR0 := am_ hr0
 have HC0 := am_ hc0
 clear hr0 hc0
 have HB := am_ (Below.refl w.heap.size w)
 have H := h
 unfold impl_SizeOfPart.f at H
 clear h
 revert H; refine bn_ ?_; rintro t479 A3 H; try dsimp only at H
 by_cases c4 : t479 = true
 ·subst c4
  rw [if_pos rfl] at H
  by_cases c5 : a1 < 0
  ·rw [if_pos c5] at H
   have c5b0 := decide_eq_true c5
   clear c5
   simp only [Option.some.injEq, Prod.mk.injEq] at H
   obtain ⟨rfl, rfl⟩ := H
   go_enter Tryz.func13, Tryz.ntmps13
   go_wp2_with (first | ((with_reducible refine gk_ 24 ?_); refine gq_ 7 Tryz.func24 #[.slice A0 l0.length c0] ?_; (with_reducible refine (impl_isRule.calls k _ _ l0 true _ ?side1 ?_ A3.out).mono ?_); (case side1 => repeat (first | exact HR0.out | (with_reducible refine Kd.C_alloc ?_ _) | (with_reducible refine Kd.C_drewN ?_ _) | (with_reducible refine Kd.C_drew ?_))); exact HC0.out; rintro e w6 ⟨rfl, hb⟩; refine ⟨_, rfl, ?_⟩; replace HB := hbs_ HB hb))
   go_ret2
   exact ad_ (hb_ HB)
  rw [if_neg c5] at H
  have c5b0 := decide_eq_false c5
  clear c5
  by_cases c7 : a1 ≥ (l0.length : Int)
  ·rw [if_pos c7] at H
   have c7b0 : decide ((l0.length : Int) ≤ a1) = true := decide_eq_true c7
   clear c7
   simp only [Option.some.injEq, Prod.mk.injEq] at H
   obtain ⟨rfl, rfl⟩ := H
   go_enter Tryz.func13, Tryz.ntmps13
   go_wp2_with (first | ((with_reducible refine gk_ 24 ?_); refine gq_ 7 Tryz.func24 #[.slice A0 l0.length c0] ?_; (with_reducible refine (impl_isRule.calls k _ _ l0 true _ ?side1 ?_ A3.out).mono ?_); (case side1 => repeat (first | exact HR0.out | (with_reducible refine Kd.C_alloc ?_ _) | (with_reducible refine Kd.C_drewN ?_ _) | (with_reducible refine Kd.C_drew ?_))); exact HC0.out; rintro e w8 ⟨rfl, hb⟩; refine ⟨_, rfl, ?_⟩; replace HB := hbs_ HB hb))
   go_ret2
   exact ad_ (hb_ HB)
  rw [if_neg c7] at H
  have c7b0 : decide ((l0.length : Int) ≤ a1) = false := decide_eq_false c7
  clear c7
  revert H; refine bn_ ?_; rintro t480 A9 H; try dsimp only at H
  simp only [Option.some.injEq, Prod.mk.injEq] at H
  obtain ⟨rfl, rfl⟩ := H
  go_enter Tryz.func13, Tryz.ntmps13
  go_wp2_with (first | ((with_reducible refine gk_ 24 ?_); refine gq_ 7 Tryz.func24 #[.slice A0 l0.length c0] ?_; (with_reducible refine (impl_isRule.calls k _ _ l0 true _ ?side1 ?_ A3.out).mono ?_); (case side1 => repeat (first | exact HR0.out | (with_reducible refine Kd.C_alloc ?_ _) | (with_reducible refine Kd.C_drewN ?_ _) | (with_reducible refine Kd.C_drew ?_))); exact HC0.out; rintro e w10 ⟨rfl, hb⟩; refine ⟨_, rfl, ?_⟩; replace HB := hbs_ HB hb) | ((with_reducible refine gk_ 37 ?_); refine gq_ 21 Tryz.func37 #[.slice A0 l0.length c0, .int .i64 a1] ?_; (with_reducible refine (impl_partSize.calls k _ _ l0 a1 t480 _ ?_ ?_ A9.out).mono ?_); exact Kd.C_w HR0 HB; exact HC0.out; rintro e w' ⟨rfl, ⟨nd, rfl⟩⟩; refine ⟨_, rfl, ?_⟩))
  go_ret2
  exact ad_ (hb_ HB)
 replace c4 := Bool.eq_false_iff.mpr c4
 subst c4
 rw [if_neg (show ¬ (false = true) by decide)] at H
 simp only [Option.some.injEq, Prod.mk.injEq] at H
 obtain ⟨rfl, rfl⟩ := H
 go_enter Tryz.func13, Tryz.ntmps13
 go_wp2_with (first | ((with_reducible refine gk_ 24 ?_); refine gq_ 7 Tryz.func24 #[.slice A0 l0.length c0] ?_; (with_reducible refine (impl_isRule.calls k _ _ l0 false _ ?side1 ?_ A3.out).mono ?_); (case side1 => repeat (first | exact HR0.out | (with_reducible refine Kd.C_alloc ?_ _) | (with_reducible refine Kd.C_drewN ?_ _) | (with_reducible refine Kd.C_drew ?_))); exact HC0.out; rintro e w11 ⟨rfl, hb⟩; refine ⟨_, rfl, ?_⟩; replace HB := hbs_ HB hb))
 go_ret2
 exact ad_ (hb_ HB)

/-! ### spec_ruSize: function 40 -/
mutual
def spec_ruSize.l0 : Nat → List (List Int) → Int → List Int → Int → Int → Option (Int)
 | 0, _, _, _, _, _ => none
 | k + 1, x0, x5, x11, x12, x13 => if x13 < x12 then (if 0 ≤ x13 then (if x13 < (x11.length : Int) then ((spec_ruSize.f k x0 (rd x11 x13)).bind fun t483 => (spec_ruSize.l0 k x0 (wrap64 (x5 + t483)) x11 x12 (wrap64 (x13 + 1)))) else (none)) else (none)) else (some x5)
def spec_ruSize.f : Nat → List (List Int) → Int → Option (Int)
 | 0, _, _ => none
 | k + 1, l0, a1 => if 0 ≤ a1 then (if a1 < (l0.length : Int) then (spec_ruSize.l0 k l0 1 (rd_L3 l0 a1) ((rd_L3 l0 a1).length : Int) 0) else (none)) else (none)
end
theorem spec_ruSize.calls (k : Nat) : ∀ (A0 : Option Addr) (c0 : Nat) (l0 : List (List Int)) (a1 : Int) (r : Int) (w : World) (hr0 : Kd.C (Kd.slice 3 (Kd.int .i64)) w A0 l0.length l0) (hc0 : l0.length ≤ c0) (h : spec_ruSize.f k l0 a1 = some r),
  Calls Tryz.prog 40 #[.slice A0 l0.length c0, .int .i64 a1] w fun e w' => e = .returned (.int .i64 r) ∧ Drawn0 w w' := by
 induction k using Nat.strongRecOn with
 | _ k ih =>
 intro A0 c0 l0 a1 r w hr0 hc0 h
 cases k with
 | zero => exact absurd h (by simp [spec_ruSize.f])
 | succ k =>
 simp only [spec_ruSize.f] at h
 have HR0 := am_ hr0
 have HC0 := am_ hc0
 clear hr0 hc0
 have H := h
 clear h
 revert H; refine pd_ fun c3b0 H => ?_
 revert H; refine pd_ fun c4b0 H => ?_
 have H' := am_ H
 clear H
 have p481 : 0 ≤ (a1 : Int) := od_
 have q481 : a1 < (l0.length : Int) := od_
 obtain ⟨ad481, A481_0, c481_0, e481, hx481_0, hl481_0, hi481_0⟩ := at_L3 HR0.out a1 p481 q481
 cases e481
 have HR481_0 := am_ hi481_0
 have HC481_0 := am_ hl481_0
 clear hi481_0 hl481_0
 replace p481 := eq_true p481
 replace q481 := eq_true q481
 go_enter Tryz.func40, Tryz.ntmps40
 go_wp2
 go_loopg [5, 13] k (fun kq v5 v13 w' => ∃ (x5_1 : Int) (x13_1 : Int), v5 = .int .i64 x5_1 ∧ v13 = .int .i64 x13_1 ∧ Aside0 (spec_ruSize.l0 kq l0 x5_1 (rd_L3 l0 a1) ((rd_L3 l0 a1).length : Int) x13_1 = some r) ∧ Aside0 (kq ≤ k) ∧ Drawn0 w w')
 case atStart => exact ⟨(1), (0), sr_, sr_, H', ⟨Nat.le_refl _⟩, by repeat (first | exact Drawn0.refl _ | apply Drawn0.step)⟩
 clear H'
 obtain ⟨x5_1, x13_1, rfl, rfl, HA, HK1, ⟨m1, rfl⟩⟩ := hrel
 cases gk with
 | zero => exact absurd HA.out (by simp [spec_ruSize.l0])
 | succ k1 => ?_
 have H := HA.out
 clear HA
 simp only [spec_ruSize.l0] at H
 by_cases c5 : x13_1 < ((rd_L3 l0 a1).length : Int)
 case neg => rw [if_neg c5] at H; have c5b0 := decide_eq_false c5; clear c5; obtain rfl := Option.some.inj H; go_wp2; go_ret; (exact ⟨by first | rfl | (simp; done) | (simp [*]; done), by repeat (first | exact Drawn0.refl _ | apply Drawn0.step)⟩)
 rw [if_pos c5] at H
 have c5b0 := decide_eq_true c5
 clear c5
 revert H; refine pd_ fun c6b0 H => ?_
 revert H; refine pd_ fun c7b0 H => ?_
 revert H; refine bn_ ?_; rintro t483 A8 H; try dsimp only at H
 have H' := am_ H
 clear H
 obtain ⟨ad482, e482, hx482_0, p482, q482⟩ := ai_ HR481_0.out x13_1
 cases e482
 go_wp2_with (first | ((with_reducible refine gk_ 40 ?_); refine gq_ 20 Tryz.func40 #[.slice (some ad481) l0.length c0, .int .i64 (rd (rd_L3 l0 a1) x13_1)] ?_; (with_reducible refine (ih k1 (by have := HK1.out; omega) _ _ l0 (rd (rd_L3 l0 a1) x13_1) t483 _ ?side1 ?_ A8.out).mono ?_); (case side1 => repeat (first | exact HR0.out | (with_reducible refine Kd.C_alloc ?_ _) | (with_reducible refine Kd.C_drewN ?_ _) | (with_reducible refine Kd.C_drew ?_))); exact HC0.out; rintro e w' ⟨rfl, ⟨nd, rfl⟩⟩; refine ⟨_, rfl, ?_⟩))
 go_roundg k1
 case measure => have := HK1.out; omega
 case rel => exact ⟨(wrap64 (x5_1 + t483)), (wrap64 (x13_1 + 1)), sr_, sr_, H', ⟨by have := HK1.out; omega⟩, by repeat (first | exact Drawn0.refl _ | apply Drawn0.step)⟩

/-! ### spec_SizeOfPart: function 14 -/
def spec_SizeOfPart.j0 : Nat → List (S73) → Int → Bool → Option (Int × Bool)
 | 0, _, _, _ => none
 | k + 1, x0, x1, x18 => if x18 = true then (some (0, false)) else ((spec_ruTree.f k x0).bind fun bt486 => ((spec_ruSize.f k bt486.1 x1).bind fun t490 => (some (t490, true))))
def spec_SizeOfPart.f (k : Nat) (l0 : List (S73)) (a1 : Int) : Option (Int × Bool) := (spec_ruGood.f k l0).bind fun t484 => (if t484 = true then ((spec_l1In.f a1 0 (wrap64 ((l0.length : Int) - 1))).bind fun t485 => (spec_SizeOfPart.j0 k l0 a1 (!t485))) else (spec_SizeOfPart.j0 k l0 a1 true))
theorem spec_SizeOfPart.calls (k : Nat) (A0 : Option Addr) (c0 : Nat) (l0 : List (S73)) (a1 : Int) (r1 : Int) (r2 : Bool) (w : World) (hr0 : Kd.C k73 w A0 l0.length l0) (hc0 : l0.length ≤ c0) (h : spec_SizeOfPart.f k l0 a1 = some (r1, r2)) :
  Calls Tryz.prog 14 #[.slice A0 l0.length c0, .int .i64 a1] w fun e w' => e = .returned (.tuple #[.int .i64 r1, .bool r2]) ∧ Below w.heap.size w w' := by
 have HR0 := am_ hr0
 have HC0 := am_ hc0
 clear hr0 hc0
 have HB := am_ (Below.refl w.heap.size w)
 have H := h
 unfold spec_SizeOfPart.f at H
 clear h
 have HC3 := am_ H
 clear H
 go_enter Tryz.func14, Tryz.ntmps14
 go_upto_region 1 with (fail)
 go_cut [18] (fun v18 wc => ∃ (kq : Nat) (x18_2 : Bool), v18 = .bool x18_2 ∧ Aside0 (spec_SizeOfPart.j0 kq l0 a1 x18_2 = some (r1, r2)) ∧ Aside0 (kq ≤ k) ∧ Aside0 (Below w.heap.size w wc))
 case first =>
  have H := HC3.out
  clear HC3
  revert H; refine bn_ ?_; rintro t484 A4 H; try dsimp only at H
  by_cases c5 : t484 = true
  ·subst c5
   rw [if_pos rfl] at H
   revert H; refine bn_ ?_; rintro t485 A6 H; try dsimp only at H
   have H' := am_ H
   clear H
   go_wp2_with (first | ((with_reducible refine gk_ 26 ?_); refine gq_ 9 Tryz.func26 #[.slice A0 l0.length c0] ?_; (with_reducible refine (spec_ruGood.calls k _ _ l0 true _ ?_ ?_ A4.out).mono ?_); exact Kd.C_w HR0 HB; exact HC0.out; rintro e w7 ⟨rfl, hb⟩; refine ⟨_, rfl, ?_⟩; replace HB := hbs_ HB hb) | (go_at_call 38; (with_reducible refine (spec_l1In.calls a1 0 (wrap64 ((l0.length : Int) - 1)) t485 _ A6.out).mono ?_); rintro e w' ⟨rfl, ⟨nd, rfl⟩⟩))
   go_meet
   case rel => exact ⟨_, (!t485), sr_, H', ⟨by first | omega | exact Nat.le_refl _⟩, ⟨hb_ HB⟩⟩
  replace c5 := Bool.eq_false_iff.mpr c5
  subst c5
  rw [if_neg (show ¬ (false = true) by decide)] at H
  have H' := am_ H
  clear H
  go_wp2_with (first | ((with_reducible refine gk_ 26 ?_); refine gq_ 9 Tryz.func26 #[.slice A0 l0.length c0] ?_; (with_reducible refine (spec_ruGood.calls k _ _ l0 false _ ?_ ?_ A4.out).mono ?_); exact Kd.C_w HR0 HB; exact HC0.out; rintro e w8 ⟨rfl, hb⟩; refine ⟨_, rfl, ?_⟩; replace HB := hbs_ HB hb))
  go_meet
  case rel => exact ⟨_, (true), sr_, H', ⟨by first | omega | exact Nat.le_refl _⟩, ⟨hb_ HB⟩⟩
 clear HC3
 obtain ⟨kq, x18_2, rfl, HA, HJ2, HB⟩ := hcut
 cases kq with
 | zero => exact absurd HA.out (by simp [spec_SizeOfPart.j0])
 | succ kj2 => ?_
 have H := HA.out
 clear HA
 simp only [spec_SizeOfPart.j0] at H
 by_cases c9 : x18_2 = true
 ·subst c9
  rw [if_pos rfl] at H
  simp only [Option.some.injEq, Prod.mk.injEq] at H
  obtain ⟨rfl, rfl⟩ := H
  go_wp2
  go_ret2
  exact ad_ (hb_ HB)
 replace c9 := Bool.eq_false_iff.mpr c9
 subst c9
 rw [if_neg (show ¬ (false = true) by decide)] at H
 revert H; refine bn_ ?_; rintro ⟨t486, t487⟩ A10 H; try dsimp only at H
 revert H; refine bn_ ?_; rintro t490 A11 H; try dsimp only at H
 simp only [Option.some.injEq, Prod.mk.injEq] at H
 obtain ⟨rfl, rfl⟩ := H
 go_wp2_with (first | ((with_reducible refine gk_ 39 ?_); refine gq_ 21 Tryz.func39 #[.slice A0 l0.length c0] ?_; (with_reducible refine (spec_ruTree.calls kj2 _ _ l0 t486 t487 _ ?_ ?_ A10.out).mono ?_); exact Kd.C_w HR0 HB; exact HC0.out; rintro e w12 ⟨v488, rfl, ho0, hb⟩; refine ⟨_, rfl, ?_⟩; have HO489 := am_ (Kd.S_lower ho0 (below_size (hb_ HB))); replace HB := hbs_ HB hb; obtain ⟨Ao13, co13, eo13⟩ := Kd.S_slice HO489.out; subst eo13) | ((with_reducible refine gk_ 40 ?_); refine gq_ 26 Tryz.func40 #[.slice Ao13 t486.length co13, .int .i64 a1] ?_; (with_reducible refine (spec_ruSize.calls kj2 _ _ t486 a1 t490 _ ?side1 ?_ A11.out).mono ?_); (case side1 => repeat (first | exact (Kd.S_reads' HO489.out).2.2 | (with_reducible refine Kd.C_alloc ?_ _) | (with_reducible refine Kd.C_drewN ?_ _) | (with_reducible refine Kd.C_drew ?_))); exact (Kd.S_reads' HO489.out).2.1; rintro e w' ⟨rfl, ⟨nd, rfl⟩⟩; refine ⟨_, rfl, ?_⟩))
 go_ret2
 exact ad_ (hb_ HB)

/-! ### impl_DepthOfRule: function 15 -/
def impl_DepthOfRule.f (k : Nat) (l0 : List (S73)) : Option (Int × Bool) := (impl_isRule.f k l0).bind fun t491 => (if t491 = true then ((impl_ruleDepth.f k l0).bind fun bt492 => (some (bt492.1, true))) else (some (0, false)))
theorem impl_DepthOfRule.calls (k : Nat) (A0 : Option Addr) (c0 : Nat) (l0 : List (S73)) (r1 : Int) (r2 : Bool) (w : World) (hr0 : Kd.C k73 w A0 l0.length l0) (hc0 : l0.length ≤ c0) (h : impl_DepthOfRule.f k l0 = some (r1, r2)) :
  Calls Tryz.prog 15 #[.slice A0 l0.length c0] w fun e w' => e = .returned (.tuple #[.int .i64 r1, .bool r2]) ∧ Below w.heap.size w w' := by
 have HR0 := am_ hr0
 have HC0 := am_ hc0
 clear hr0 hc0
 have HB := am_ (Below.refl w.heap.size w)
 have H := h
 unfold impl_DepthOfRule.f at H
 clear h
 revert H; refine bn_ ?_; rintro t491 A2 H; try dsimp only at H
 by_cases c3 : t491 = true
 ·subst c3
  rw [if_pos rfl] at H
  revert H; refine bn_ ?_; rintro ⟨t492, t493⟩ A4 H; try dsimp only at H
  simp only [Option.some.injEq, Prod.mk.injEq] at H
  obtain ⟨rfl, rfl⟩ := H
  go_enter Tryz.func15, Tryz.ntmps15
  go_wp2_with (first | ((with_reducible refine gk_ 24 ?_); refine gq_ 7 Tryz.func24 #[.slice A0 l0.length c0] ?_; (with_reducible refine (impl_isRule.calls k _ _ l0 true _ ?side1 ?_ A2.out).mono ?_); (case side1 => repeat (first | exact HR0.out | (with_reducible refine Kd.C_alloc ?_ _) | (with_reducible refine Kd.C_drewN ?_ _) | (with_reducible refine Kd.C_drew ?_))); exact HC0.out; rintro e w5 ⟨rfl, hb⟩; refine ⟨_, rfl, ?_⟩; replace HB := hbs_ HB hb) | ((with_reducible refine gk_ 41 ?_); refine gq_ 11 Tryz.func41 #[.slice A0 l0.length c0] ?_; (with_reducible refine (impl_ruleDepth.calls k _ _ l0 t492 t493 _ ?_ ?_ A4.out).mono ?_); exact Kd.C_w HR0 HB; exact HC0.out; rintro e w6 ⟨rfl, hb⟩; refine ⟨_, rfl, ?_⟩; replace HB := hbs_ HB hb))
  go_ret2
  exact ad_ (hb_ HB)
 replace c3 := Bool.eq_false_iff.mpr c3
 subst c3
 rw [if_neg (show ¬ (false = true) by decide)] at H
 simp only [Option.some.injEq, Prod.mk.injEq] at H
 obtain ⟨rfl, rfl⟩ := H
 go_enter Tryz.func15, Tryz.ntmps15
 go_wp2_with (first | ((with_reducible refine gk_ 24 ?_); refine gq_ 7 Tryz.func24 #[.slice A0 l0.length c0] ?_; (with_reducible refine (impl_isRule.calls k _ _ l0 false _ ?side1 ?_ A2.out).mono ?_); (case side1 => repeat (first | exact HR0.out | (with_reducible refine Kd.C_alloc ?_ _) | (with_reducible refine Kd.C_drewN ?_ _) | (with_reducible refine Kd.C_drew ?_))); exact HC0.out; rintro e w7 ⟨rfl, hb⟩; refine ⟨_, rfl, ?_⟩; replace HB := hbs_ HB hb))
 go_ret2
 exact ad_ (hb_ HB)

/-! ### spec_DepthOfRule: function 16 -/
def spec_DepthOfRule.f (k : Nat) (l0 : List (S73)) : Option (Int × Bool) := (spec_ruGood.f k l0).bind fun t494 => (if t494 = true then ((spec_ruTree.f k l0).bind fun bt495 => ((spec_ruDepths.f k bt495.1).bind fun t499 => (if 0 ≤ (wrap64 ((l0.length : Int) - 1)) then (if (wrap64 ((l0.length : Int) - 1)) < (t499.length : Int) then (some (rd t499 (wrap64 ((l0.length : Int) - 1)), true)) else (none)) else (none)))) else (some (0, false)))
theorem spec_DepthOfRule.calls (k : Nat) (A0 : Option Addr) (c0 : Nat) (l0 : List (S73)) (r1 : Int) (r2 : Bool) (w : World) (hr0 : Kd.C k73 w A0 l0.length l0) (hc0 : l0.length ≤ c0) (h : spec_DepthOfRule.f k l0 = some (r1, r2)) :
  Calls Tryz.prog 16 #[.slice A0 l0.length c0] w fun e w' => e = .returned (.tuple #[.int .i64 r1, .bool r2]) ∧ Below w.heap.size w w' := by
 have HR0 := am_ hr0
 have HC0 := am_ hc0
 clear hr0 hc0
 have HB := am_ (Below.refl w.heap.size w)
 have H := h
 unfold spec_DepthOfRule.f at H
 clear h
 revert H; refine bn_ ?_; rintro t494 A2 H; try dsimp only at H
 by_cases c3 : t494 = true
 ·subst c3
  rw [if_pos rfl] at H
  revert H; refine bn_ ?_; rintro ⟨t495, t496⟩ A4 H; try dsimp only at H
  revert H; refine bn_ ?_; rintro t499 A5 H; try dsimp only at H
  obtain ⟨ji6, hji6⟩ : ∃ j_ : Int, (wrap64 ((l0.length : Int) - 1)) = j_ := ⟨_, rfl⟩
  replace H : (if 0 ≤ (ji6) then (if (ji6) < (t499.length : Int) then (some (rd t499 (ji6), true)) else (none)) else (none)) = some (r1, r2) := by first | (rw [hji6] at H; exact H) | (simp only [hji6] at H ⊢; exact H)
  (try rw [hji6] at A2)
  (try rw [hji6] at A4)
  (try rw [hji6] at A5)
  have hji6w : (IntKind.i64.wrap ((l0.length : Int) - 1)) = ji6 := (i64_w _).trans hji6
  revert H; refine pd_ fun c7b0 H => ?_
  revert H; refine pd_ fun c8b0 H => ?_
  simp only [Option.some.injEq, Prod.mk.injEq] at H
  obtain ⟨rfl, rfl⟩ := H
  go_enter Tryz.func16, Tryz.ntmps16
  go_wp2_with (first | ((with_reducible refine gk_ 26 ?_); refine gq_ 7 Tryz.func26 #[.slice A0 l0.length c0] ?_; (with_reducible refine (spec_ruGood.calls k _ _ l0 true _ ?side1 ?_ A2.out).mono ?_); (case side1 => repeat (first | exact HR0.out | (with_reducible refine Kd.C_alloc ?_ _) | (with_reducible refine Kd.C_drewN ?_ _) | (with_reducible refine Kd.C_drew ?_))); exact HC0.out; rintro e w9 ⟨rfl, hb⟩; refine ⟨_, rfl, ?_⟩; replace HB := hbs_ HB hb) | ((with_reducible refine gk_ 39 ?_); refine gq_ 11 Tryz.func39 #[.slice A0 l0.length c0] ?_; (with_reducible refine (spec_ruTree.calls k _ _ l0 t495 t496 _ ?_ ?_ A4.out).mono ?_); exact Kd.C_w HR0 HB; exact HC0.out; rintro e w10 ⟨v497, rfl, ho0, hb⟩; refine ⟨_, rfl, ?_⟩; have HO498 := am_ (Kd.S_lower ho0 (below_size (hb_ HB))); replace HB := hbs_ HB hb; obtain ⟨Ao11, co11, eo11⟩ := Kd.S_slice HO498.out; subst eo11) | ((with_reducible refine gk_ 42 ?_); refine gq_ 15 Tryz.func42 #[.slice Ao11 t495.length co11] ?_; (with_reducible refine (spec_ruDepths.calls k _ _ t495 t499 _ ?side1 ?_ A5.out).mono ?_); (case side1 => repeat (first | exact (Kd.S_reads' HO498.out).2.2 | (with_reducible refine Kd.C_alloc ?_ _) | (with_reducible refine Kd.C_drewN ?_ _) | (with_reducible refine Kd.C_drew ?_))); exact (Kd.S_reads' HO498.out).2.1; rintro e w12 ⟨v500, rfl, ho0, hb⟩; refine ⟨_, rfl, ?_⟩; have HO501 := Kd.R_lo ho0 HB; replace HO498 := am_ (Kd.S_elder' (by (with_reducible repeat (first | apply Kd.S_alloc | apply Kd.S_drewN | apply Kd.S_drew)); exact HO498.out) (Kd.R_base ho0) hb); replace HB := hbs_ HB hb; obtain ⟨Ao13, co13, eo13⟩ := Kd.R_slice HO501.out; subst eo13; have p502 : 0 ≤ ((ji6) : Int) := od_; have q502 : (ji6) < (t499.length : Int) := od_; obtain ⟨ad502, e502, hx502_0⟩ := Kd.at_int (Kd.R_reads' HO501.out).2.2 (ji6) p502 q502; cases e502; replace p502 := eq_true p502; replace q502 := eq_true q502))
  go_ret2
  exact ⟨by first | rfl | (simp [errW_none, errW_some] <;> rfl) | (simp only [← hji6]; first | rfl | (simp [errW_none, errW_some] <;> rfl)) | (simp [*, errW_none, errW_some] <;> rfl), hb_ HB⟩
 replace c3 := Bool.eq_false_iff.mpr c3
 subst c3
 rw [if_neg (show ¬ (false = true) by decide)] at H
 simp only [Option.some.injEq, Prod.mk.injEq] at H
 obtain ⟨rfl, rfl⟩ := H
 go_enter Tryz.func16, Tryz.ntmps16
 go_wp2_with (first | ((with_reducible refine gk_ 26 ?_); refine gq_ 7 Tryz.func26 #[.slice A0 l0.length c0] ?_; (with_reducible refine (spec_ruGood.calls k _ _ l0 false _ ?side1 ?_ A2.out).mono ?_); (case side1 => repeat (first | exact HR0.out | (with_reducible refine Kd.C_alloc ?_ _) | (with_reducible refine Kd.C_drewN ?_ _) | (with_reducible refine Kd.C_drew ?_))); exact HC0.out; rintro e w14 ⟨rfl, hb⟩; refine ⟨_, rfl, ?_⟩; replace HB := hbs_ HB hb))
 go_ret2
 exact ad_ (hb_ HB)

/-! ### impl_Part_64: function 64 -/
def impl_Part_64.l0 : Nat → List (S73) → Int → Int → Int → Int → Option (Int)
 | 0, _, _, _, _, _ => none
 | k + 1, x0, x7, x8, x504000, x504001 => if x8 < x7 then (if 0 ≤ x8 then (if x8 < (x0.length : Int) then (if (x504000 == ((rd_T73 x0 x8).f0) && (x504001 == ((rd_T73 x0 x8).f1))) = true then (some x8) else (impl_Part_64.l0 k x0 x7 (wrap64 (x8 + 1)) x504000 x504001)) else (none)) else (none)) else (some (-1))
def impl_Part_64.f (k : Nat) (l0 : List (S73)) (a1_0 : Int) (a1_1 : Int) : Option (Int) := impl_Part_64.l0 k l0 (l0.length : Int) 0 a1_0 a1_1
theorem impl_Part_64.calls (k : Nat) (A0 : Option Addr) (c0 : Nat) (l0 : List (S73)) (a1_0 : Int) (a1_1 : Int) (r : Int) (w : World) (hr0 : Kd.C k73 w A0 l0.length l0) (hc0 : l0.length ≤ c0) (h : impl_Part_64.f k l0 a1_0 a1_1 = some r) :
  Calls Tryz.prog 64 #[.slice A0 l0.length c0, .agg #[.int .i64 a1_0, .int .i64 a1_1]] w fun e w' => e = .returned (.int .i64 r) ∧ Below w.heap.size w w' := by
 have hu73 := Tryz.underlying73
 have HR0 := am_ hr0
 have HC0 := am_ hc0
 clear hr0 hc0
 have HB := am_ (Below.refl w.heap.size w)
 have H := h
 unfold impl_Part_64.f at H
 clear h
 have H' := am_ H
 clear H
 go_enter Tryz.func64, Tryz.ntmps64
 go_wp2_with (first | ((with_reducible refine gate_dst (N := 3) rfl ?_); refine bv_ 3 (cs := #[.int .i64 a1_0, .int .i64 a1_1]) (t := 73) ?_; intro gb503 hg w3 hbox hb; have BK503 := am_ (hbox); have GW503 := gs_ hg HB; have GE503 := gs_ hg HB; replace HB := hbs_ HB hb; clear hb hbox hg))
 repeat (go_quiet (first | ((with_reducible refine gate_dst (N := 3) rfl ?_); refine bv_ 3 (cs := #[.int .i64 a1_0, .int .i64 a1_1]) (t := 73) ?_; intro gb503 hg w3 hbox hb; have BK503 := am_ (hbox); have GW503 := gs_ hg HB; have GE503 := gs_ hg HB; replace HB := hbs_ HB hb; clear hb hbox hg)); try go_wp2_with (first | ((with_reducible refine gate_dst (N := 3) rfl ?_); refine bv_ 3 (cs := #[.int .i64 a1_0, .int .i64 a1_1]) (t := 73) ?_; intro gb503 hg w3 hbox hb; have BK503 := am_ (hbox); have GW503 := gs_ hg HB; have GE503 := gs_ hg HB; replace HB := hbs_ HB hb; clear hb hbox hg)))
 go_loopg [8] k (fun kq v8 w' => ∃ (x8_1 : Int), v8 = .int .i64 x8_1 ∧ Aside0 (impl_Part_64.l0 kq l0 (l0.length : Int) x8_1 a1_0 a1_1 = some r) ∧ Aside0 (kq ≤ k) ∧ Aside0 (w'.heap[gb503]? = some (.cells #[.int .i64 a1_0, .int .i64 a1_1] 73 (0, 0))) ∧ Aside0 (Below w.heap.size w w'))
 case atStart => exact ⟨(0), sr_, H', ⟨Nat.le_refl _⟩, ⟨kp_ BK503⟩, ⟨hb_ HB⟩⟩
 clear H'
 obtain ⟨x8_1, rfl, HA, HK1, BK503, HB⟩ := hrel
 cases gk with
 | zero => exact absurd HA.out (by simp [impl_Part_64.l0])
 | succ k1 => ?_
 have H := HA.out
 clear HA
 simp only [impl_Part_64.l0] at H
 by_cases c4 : x8_1 < (l0.length : Int)
 case neg => rw [if_neg c4] at H; have c4b0 := decide_eq_false c4; clear c4; obtain rfl := Option.some.inj H; go_wp2; (repeat (go_quiet (fail); try go_wp2)); go_ret; exact ad_ (hb_ HB)
 rw [if_pos c4] at H
 have c4b0 := decide_eq_true c4
 clear c4
 revert H; refine pd_ fun c5b0 H => ?_
 revert H; refine pd_ fun c6b0 H => ?_
 by_cases c7 : (a1_0 == ((rd_T73 l0 x8_1).f0) && (a1_1 == ((rd_T73 l0 x8_1).f1))) = true
 ·rw [if_pos c7] at H
  have c7b0 : (a1_0 == ((rd_T73 l0 x8_1).f0) && (a1_1 == ((rd_T73 l0 x8_1).f1))) = true := c7
  (try (have c7b1 : decide (a1_0 = ((rd_T73 l0 x8_1).f0) && (a1_1 == ((rd_T73 l0 x8_1).f1))) = true := by simpa using c7))
  (try (have c7b2 : (a1_0 == ((rd_T73 l0 x8_1).f0) && (a1_1 == ((rd_T73 l0 x8_1).f1))) = true := by simpa using c7))
  clear c7
  obtain rfl := Option.some.inj H
  obtain ⟨hcz8_0, hcz8_1, hfz8_0, hfz8_1⟩ := bx2 BK503
  have p504 : 0 ≤ (x8_1 : Int) := od_
  have q504 : x8_1 < (l0.length : Int) := od_
  obtain ⟨ad504, e504, hx504_0, hx504_1⟩ := at_T73 HR0.out x8_1 p504 q504
  cases e504
  replace hx504_0 := hc_ HB hx504_0
  replace hx504_1 := hc_ HB hx504_1
  replace p504 := eq_true p504
  replace q504 := eq_true q504
  go_wp2
  repeat (go_quiet (fail); try go_wp2)
  go_ret
  exact ad_ (hb_ HB)
 rw [if_neg c7] at H
 have c7b0 : (a1_0 == ((rd_T73 l0 x8_1).f0) && (a1_1 == ((rd_T73 l0 x8_1).f1))) = false := by simpa using c7
 (try (have c7b1 : decide (a1_0 = ((rd_T73 l0 x8_1).f0) && (a1_1 == ((rd_T73 l0 x8_1).f1))) = false := by simpa using c7))
 (try (have c7b2 : (a1_0 == ((rd_T73 l0 x8_1).f0) && (a1_1 == ((rd_T73 l0 x8_1).f1))) = false := by simpa using c7))
 (try (have c7b3 : ¬ (a1_0 = ((rd_T73 l0 x8_1).f0) && (a1_1 == ((rd_T73 l0 x8_1).f1))) := by simpa using c7))
 clear c7
 have H' := am_ H
 clear H
 obtain ⟨hcz9_0, hcz9_1, hfz9_0, hfz9_1⟩ := bx2 BK503
 have p504 : 0 ≤ (x8_1 : Int) := od_
 have q504 : x8_1 < (l0.length : Int) := od_
 obtain ⟨ad504, e504, hx504_0, hx504_1⟩ := at_T73 HR0.out x8_1 p504 q504
 cases e504
 replace hx504_0 := hc_ HB hx504_0
 replace hx504_1 := hc_ HB hx504_1
 replace p504 := eq_true p504
 replace q504 := eq_true q504
 go_wp2
 repeat (go_quiet (fail); try go_wp2)
 go_roundg k1
 case measure => have := HK1.out; omega
 case rel => exact ⟨(wrap64 (x8_1 + 1)), sr_, H', ⟨by have := HK1.out; omega⟩, ⟨kp_ BK503⟩, ⟨hb_ HB⟩⟩

/-! ### impl_Part_43: function 43 -/
def impl_Part_43.f (k : Nat) (l0 : List (S73)) (a1_0 : Int) (a1_1 : Int) : Option (Bool) := (impl_Part_64.f k l0 a1_0 a1_1).bind fun t506 => (some (decide (t506 ≥ 0)))
theorem impl_Part_43.calls (k : Nat) (A0 : Option Addr) (c0 : Nat) (l0 : List (S73)) (a1_0 : Int) (a1_1 : Int) (r : Bool) (w : World) (hr0 : Kd.C k73 w A0 l0.length l0) (hc0 : l0.length ≤ c0) (h : impl_Part_43.f k l0 a1_0 a1_1 = some r) :
  Calls Tryz.prog 43 #[.slice A0 l0.length c0, .agg #[.int .i64 a1_0, .int .i64 a1_1]] w fun e w' => e = .returned (.bool r) ∧ Below w.heap.size w w' := by
 have hu73 := Tryz.underlying73
 have HR0 := am_ hr0
 have HC0 := am_ hc0
 clear hr0 hc0
 have HB := am_ (Below.refl w.heap.size w)
 have H := h
 unfold impl_Part_43.f at H
 clear h
 revert H; refine bn_ ?_; rintro t506 A3 H; try dsimp only at H
 obtain rfl := Option.some.inj H
 go_enter Tryz.func43, Tryz.ntmps43
 go_wp2_with (first | ((with_reducible refine gate_dst (N := 3) rfl ?_); refine bv_ 3 (cs := #[.int .i64 a1_0, .int .i64 a1_1]) (t := 73) ?_; intro gb505 hg w4 hbox hb; have BK505 := am_ (hbox); have GW505 := gs_ hg HB; have GE505 := gs_ hg HB; replace HB := hbs_ HB hb; clear hb hbox hg; obtain ⟨hcz5_0, hcz5_1, hfz5_0, hfz5_1⟩ := bx2 BK505) | ((with_reducible refine gk_ 64 ?_); refine gq_ 7 Tryz.func64 #[.slice A0 l0.length c0, .agg #[.int .i64 a1_0, .int .i64 a1_1]] ?_; (with_reducible refine (impl_Part_64.calls k _ _ l0 a1_0 a1_1 t506 _ ?_ ?_ A3.out).mono ?_); exact Kd.C_w HR0 HB; exact HC0.out; rintro e w6 ⟨rfl, hb⟩; refine ⟨_, rfl, ?_⟩; replace BK505 := kb_ BK505 hb; replace HB := hbs_ HB hb))
 go_ret
 exact ad_ (hb_ HB)

end Go.Proofs.YtihjlepgmppedaaGreatDoor.PFnRules
