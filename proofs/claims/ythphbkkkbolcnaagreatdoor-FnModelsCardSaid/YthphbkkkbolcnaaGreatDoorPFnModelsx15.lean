-- Laid for this claim by wip/tools/print2.sh, a changed copy of the kit's print (wip/tools/patch_print.py): not by print.sh.
import Derived.Test.YthphbkkkbolcnaaGreatDoorPFnModelsx12
import Derived.Test.YthphbkkkbolcnaaGreatDoorVFnModels
namespace Go.Proofs.YthphbkkkbolcnaaGreatDoor.PFnModels
set_option maxHeartbeats 8000000
set_option maxRecDepth 100000
open Go.RowKit Go.Proofs.YthphbkkkbolcnaaGreatDoorW.PrintWords Go.Proofs.YthphbkkkbolcnaaGreatDoorW.PrintLast Go.Proofs.YthphbkkkbolcnaaGreatDoorW.PrintMore
set_option linter.unusedVariables false
set_option linter.unusedSimpArgs false

/-! ### impl_RichestBlock: function 18 -/
def impl_RichestBlock.l0 : Nat → Int → Int → Int → Int → Int → Int → List Int → List Int → List Int → Option (Int × Bool)
 | 0, _, _, _, _, _, _, _, _, _ => none
 | k + 1, x4, x11, x12, x513000, x513001, x513002, x513003, x513004, x513005 => if x12 < x11 then (if 0 ≤ x12 then (if x12 < (x513003.length : Int) then (if x12 < (x513004.length : Int) then (if 0 ≤ x4 then (if x4 < (x513003.length : Int) then (if x4 < (x513004.length : Int) then (if (wrap64 ((rd x513003 x12) * (rd x513004 x12))) > (wrap64 ((rd x513003 x4) * (rd x513004 x4))) then (impl_RichestBlock.l0 k x12 x11 (wrap64 (x12 + 1)) x513000 x513001 x513002 x513003 x513004 x513005) else (impl_RichestBlock.l0 k x4 x11 (wrap64 (x12 + 1)) x513000 x513001 x513002 x513003 x513004 x513005)) else (none)) else (none)) else (none)) else (none)) else (none)) else (none)) else (some (x4, true))
def impl_RichestBlock.f (k : Nat) (a0_0 : Int) (a0_1 : Int) (a0_2 : Int) (l0_3 : List Int) (l0_4 : List Int) (l0_5 : List Int) : Option (Int × Bool) := (impl_IsModel.f k a0_0 a0_1 a0_2 l0_3 l0_4 l0_5).bind fun t513 => (if t513 = true then (impl_RichestBlock.l0 k 0 (l0_3.length : Int) 0 a0_0 a0_1 a0_2 l0_3 l0_4 l0_5) else (some (0, false)))
theorem impl_RichestBlock.calls (k : Nat) (a0_0 : Int) (a0_1 : Int) (a0_2 : Int) (A0_3 : Option Addr) (c0_3 : Nat) (l0_3 : List Int) (A0_4 : Option Addr) (c0_4 : Nat) (l0_4 : List Int) (A0_5 : Option Addr) (c0_5 : Nat) (l0_5 : List Int) (r1 : Int) (r2 : Bool) (w : World) (hr0_3 : Kd.C (Kd.int .i64) w A0_3 l0_3.length l0_3) (hc0_3 : l0_3.length ≤ c0_3) (hr0_4 : Kd.C (Kd.int .i64) w A0_4 l0_4.length l0_4) (hc0_4 : l0_4.length ≤ c0_4) (hr0_5 : Kd.C (Kd.int .i64) w A0_5 l0_5.length l0_5) (hc0_5 : l0_5.length ≤ c0_5) (h : impl_RichestBlock.f k a0_0 a0_1 a0_2 l0_3 l0_4 l0_5 = some (r1, r2)) :
  Calls Tryz.prog 18 #[.agg #[.int .i64 a0_0, .int .i64 a0_1, .int .i64 a0_2, .slice A0_3 l0_3.length c0_3, .slice A0_4 l0_4.length c0_4, .slice A0_5 l0_5.length c0_5]] w fun e w' => e = .returned (.tuple #[.int .i64 r1, .bool r2]) ∧ Below w.heap.size w w' := by
 have hu28 := Tryz.underlying28
 have HR0_3 := am_ hr0_3
 have HC0_3 := am_ hc0_3
 clear hr0_3 hc0_3
 have HR0_4 := am_ hr0_4
 have HC0_4 := am_ hc0_4
 clear hr0_4 hc0_4
 have HR0_5 := am_ hr0_5
 have HC0_5 := am_ hc0_5
 clear hr0_5 hc0_5
 have HB := am_ (Below.refl w.heap.size w)
 have H := h
 unfold impl_RichestBlock.f at H
 clear h
 revert H; refine bn_ ?_; rintro t513 A2 H; try dsimp only at H
 by_cases c3 : t513 = true
 ·subst c3
  rw [if_pos rfl] at H
  have H' := am_ H
  clear H
  go_enter Tryz.func18, Tryz.ntmps18
  go_wp2_with (first | ((with_reducible refine gate_dst (N := 1) rfl ?_); refine bv_ 1 (cs := #[.int .i64 a0_0, .int .i64 a0_1, .int .i64 a0_2, .slice A0_3 l0_3.length c0_3, .slice A0_4 l0_4.length c0_4, .slice A0_5 l0_5.length c0_5]) (t := 28) ?_; intro gb512 hg w4 hbox hb; have BK512 := am_ (hbox); have GW512 := gs_ hg HB; have GE512 := gs_ hg HB; replace HB := hbs_ HB hb; clear hb hbox hg; obtain ⟨hcz5_0, hcz5_1, hcz5_2, hcz5_3, hcz5_4, hcz5_5, hfz5_0, hfz5_1, hfz5_2, hfz5_3, hfz5_4, hfz5_5⟩ := bx6 BK512) | (go_at_call 8; (with_reducible refine (impl_IsModel.calls k a0_0 a0_1 a0_2 _ _ l0_3 _ _ l0_4 _ _ l0_5 true _ ?_ ?_ ?_ ?_ ?_ ?_ A2.out).mono ?_); exact Kd.C_w HR0_3 HB; exact HC0_3.out; exact Kd.C_w HR0_4 HB; exact HC0_4.out; exact Kd.C_w HR0_5 HB; exact HC0_5.out; rintro e w6 ⟨rfl, hb⟩; replace BK512 := am_ (blk_below (kp_ BK512) hb); replace HB := am_ (below_step (hb_ HB) hb); obtain ⟨hcz7_0, hcz7_1, hcz7_2, hcz7_3, hcz7_4, hcz7_5, hfz7_0, hfz7_1, hfz7_2, hfz7_3, hfz7_4, hfz7_5⟩ := bx6 BK512))
  repeat (go_quiet (fail); try go_wp2)
  go_loopg [4, 12] k (fun kq v4 v12 w' => ∃ (x4_1 : Int) (x12_1 : Int), v4 = .int .i64 x4_1 ∧ v12 = .int .i64 x12_1 ∧ Aside0 (impl_RichestBlock.l0 kq x4_1 (l0_3.length : Int) x12_1 a0_0 a0_1 a0_2 l0_3 l0_4 l0_5 = some (r1, r2)) ∧ Aside0 (kq ≤ k) ∧ Aside0 (w'.heap[gb512]? = some (.cells #[.int .i64 a0_0, .int .i64 a0_1, .int .i64 a0_2, (.slice A0_3 l0_3.length c0_3), (.slice A0_4 l0_4.length c0_4), (.slice A0_5 l0_5.length c0_5)] 28 (0, 0))) ∧ Aside0 (Below w.heap.size w w'))
  case atStart => exact ⟨(0), (0), sr_, sr_, H', ⟨Nat.le_refl _⟩, ⟨kp_ BK512⟩, ⟨hb_ HB⟩⟩
  clear H'
  obtain ⟨x4_1, x12_1, rfl, rfl, HA, HK1, BK512, HB⟩ := hrel
  cases gk with
  | zero => exact absurd HA.out (by simp [impl_RichestBlock.l0])
  | succ k1 => ?_
  have H := HA.out
  clear HA
  simp only [impl_RichestBlock.l0] at H
  by_cases c8 : x12_1 < (l0_3.length : Int)
  case neg => rw [if_neg c8] at H; have c8b0 := decide_eq_false c8; clear c8; simp only [Option.some.injEq, Prod.mk.injEq] at H; obtain ⟨rfl, rfl⟩ := H; go_wp2; (repeat (go_quiet (fail); try go_wp2)); go_ret2; exact ad_ (hb_ HB)
  rw [if_pos c8] at H
  have c8b0 := decide_eq_true c8
  clear c8
  revert H; refine pd_ fun c9b0 H => ?_
  revert H; refine pd_ fun c10b0 H => ?_
  revert H; refine pd_ fun c11b0 H => ?_
  revert H; refine pd_ fun c12b0 H => ?_
  revert H; refine pd_ fun c13b0 H => ?_
  revert H; refine pd_ fun c14b0 H => ?_
  by_cases c15 : (wrap64 ((rd l0_3 x12_1) * (rd l0_4 x12_1))) > (wrap64 ((rd l0_3 x4_1) * (rd l0_4 x4_1)))
  ·rw [if_pos c15] at H
   have c15b0 : decide ((wrap64 ((rd l0_3 x4_1) * (rd l0_4 x4_1))) < (wrap64 ((rd l0_3 x12_1) * (rd l0_4 x12_1)))) = true := decide_eq_true c15
   clear c15
   have H' := am_ H
   clear H
   obtain ⟨hcz16_0, hcz16_1, hcz16_2, hcz16_3, hcz16_4, hcz16_5, hfz16_0, hfz16_1, hfz16_2, hfz16_3, hfz16_4, hfz16_5⟩ := bx6 BK512
   have p514 : 0 ≤ (x12_1 : Int) := od_
   have q514 : x12_1 < (l0_3.length : Int) := od_
   obtain ⟨ad514, e514, hx514_0⟩ := Kd.at_int HR0_3.out x12_1 p514 q514
   cases e514
   try replace hx514_0 := hc_ HB hx514_0
   replace p514 := eq_true p514
   replace q514 := eq_true q514
   have p515 : 0 ≤ (x12_1 : Int) := od_
   have q515 : x12_1 < (l0_4.length : Int) := od_
   obtain ⟨ad515, e515, hx515_0⟩ := Kd.at_int HR0_4.out x12_1 p515 q515
   cases e515
   try replace hx515_0 := hc_ HB hx515_0
   replace p515 := eq_true p515
   replace q515 := eq_true q515
   have p516 : 0 ≤ (x4_1 : Int) := od_
   have q516 : x4_1 < (l0_3.length : Int) := od_
   obtain ⟨ad516, e516, hx516_0⟩ := Kd.at_int HR0_3.out x4_1 p516 q516
   obtain rfl : ad514 = ad516 := (by injection e516)
   try replace hx516_0 := hc_ HB hx516_0
   replace p516 := eq_true p516
   replace q516 := eq_true q516
   have p517 : 0 ≤ (x4_1 : Int) := od_
   have q517 : x4_1 < (l0_4.length : Int) := od_
   obtain ⟨ad517, e517, hx517_0⟩ := Kd.at_int HR0_4.out x4_1 p517 q517
   obtain rfl : ad515 = ad517 := (by injection e517)
   try replace hx517_0 := hc_ HB hx517_0
   replace p517 := eq_true p517
   replace q517 := eq_true q517
   go_wp2
   repeat (go_quiet (fail); try go_wp2)
   go_roundg k1
   case measure => have := HK1.out; omega
   case rel => exact ⟨(x12_1), (wrap64 (x12_1 + 1)), sr_, sr_, H', ⟨by have := HK1.out; omega⟩, ⟨kp_ BK512⟩, ⟨hb_ HB⟩⟩
  rw [if_neg c15] at H
  have c15b0 : decide ((wrap64 ((rd l0_3 x4_1) * (rd l0_4 x4_1))) < (wrap64 ((rd l0_3 x12_1) * (rd l0_4 x12_1)))) = false := decide_eq_false c15
  clear c15
  have H' := am_ H
  clear H
  obtain ⟨hcz17_0, hcz17_1, hcz17_2, hcz17_3, hcz17_4, hcz17_5, hfz17_0, hfz17_1, hfz17_2, hfz17_3, hfz17_4, hfz17_5⟩ := bx6 BK512
  have p514 : 0 ≤ (x12_1 : Int) := od_
  have q514 : x12_1 < (l0_3.length : Int) := od_
  obtain ⟨ad514, e514, hx514_0⟩ := Kd.at_int HR0_3.out x12_1 p514 q514
  cases e514
  try replace hx514_0 := hc_ HB hx514_0
  replace p514 := eq_true p514
  replace q514 := eq_true q514
  have p515 : 0 ≤ (x12_1 : Int) := od_
  have q515 : x12_1 < (l0_4.length : Int) := od_
  obtain ⟨ad515, e515, hx515_0⟩ := Kd.at_int HR0_4.out x12_1 p515 q515
  cases e515
  try replace hx515_0 := hc_ HB hx515_0
  replace p515 := eq_true p515
  replace q515 := eq_true q515
  have p516 : 0 ≤ (x4_1 : Int) := od_
  have q516 : x4_1 < (l0_3.length : Int) := od_
  obtain ⟨ad516, e516, hx516_0⟩ := Kd.at_int HR0_3.out x4_1 p516 q516
  obtain rfl : ad514 = ad516 := (by injection e516)
  try replace hx516_0 := hc_ HB hx516_0
  replace p516 := eq_true p516
  replace q516 := eq_true q516
  have p517 : 0 ≤ (x4_1 : Int) := od_
  have q517 : x4_1 < (l0_4.length : Int) := od_
  obtain ⟨ad517, e517, hx517_0⟩ := Kd.at_int HR0_4.out x4_1 p517 q517
  obtain rfl : ad515 = ad517 := (by injection e517)
  try replace hx517_0 := hc_ HB hx517_0
  replace p517 := eq_true p517
  replace q517 := eq_true q517
  go_wp2
  repeat (go_quiet (fail); try go_wp2)
  go_roundg k1
  case measure => have := HK1.out; omega
  case rel => exact ⟨(x4_1), (wrap64 (x12_1 + 1)), sr_, sr_, H', ⟨by have := HK1.out; omega⟩, ⟨kp_ BK512⟩, ⟨hb_ HB⟩⟩
 replace c3 := Bool.eq_false_iff.mpr c3
 subst c3
 rw [if_neg (show ¬ (false = true) by decide)] at H
 simp only [Option.some.injEq, Prod.mk.injEq] at H
 obtain ⟨rfl, rfl⟩ := H
 go_enter Tryz.func18, Tryz.ntmps18
 go_wp2_with (first | ((with_reducible refine gate_dst (N := 1) rfl ?_); refine bv_ 1 (cs := #[.int .i64 a0_0, .int .i64 a0_1, .int .i64 a0_2, .slice A0_3 l0_3.length c0_3, .slice A0_4 l0_4.length c0_4, .slice A0_5 l0_5.length c0_5]) (t := 28) ?_; intro gb512 hg w18 hbox hb; have BK512 := am_ (hbox); have GW512 := gs_ hg HB; have GE512 := gs_ hg HB; replace HB := hbs_ HB hb; clear hb hbox hg; obtain ⟨hcz19_0, hcz19_1, hcz19_2, hcz19_3, hcz19_4, hcz19_5, hfz19_0, hfz19_1, hfz19_2, hfz19_3, hfz19_4, hfz19_5⟩ := bx6 BK512) | (go_at_call 8; (with_reducible refine (impl_IsModel.calls k a0_0 a0_1 a0_2 _ _ l0_3 _ _ l0_4 _ _ l0_5 false _ ?_ ?_ ?_ ?_ ?_ ?_ A2.out).mono ?_); exact Kd.C_w HR0_3 HB; exact HC0_3.out; exact Kd.C_w HR0_4 HB; exact HC0_4.out; exact Kd.C_w HR0_5 HB; exact HC0_5.out; rintro e w20 ⟨rfl, hb⟩; replace BK512 := am_ (blk_below (kp_ BK512) hb); replace HB := am_ (below_step (hb_ HB) hb)))
 repeat (go_quiet (fail); try go_wp2)
 go_ret2
 exact ad_ (hb_ HB)

/-! ### spec_RichestBlock: function 19 -/
def spec_RichestBlock.l0 : Nat → Int → Int → Int → Int → Int → Int → List Int → List Int → List Int → Option (Int × Bool)
 | 0, _, _, _, _, _, _, _, _, _ => none
 | k + 1, x4, x11, x12, x519000, x519001, x519002, x519003, x519004, x519005 => if x12 < x11 then ((spec_moMetal.f x519000 x519001 x519002 x519003 x519004 x519005 x12).bind fun t520 => ((spec_moMetal.f x519000 x519001 x519002 x519003 x519004 x519005 x4).bind fun t521 => (if t520 > t521 then (spec_RichestBlock.l0 k x12 x11 (wrap64 (x12 + 1)) x519000 x519001 x519002 x519003 x519004 x519005) else (spec_RichestBlock.l0 k x4 x11 (wrap64 (x12 + 1)) x519000 x519001 x519002 x519003 x519004 x519005)))) else (some (x4, true))
def spec_RichestBlock.f (k : Nat) (a0_0 : Int) (a0_1 : Int) (a0_2 : Int) (l0_3 : List Int) (l0_4 : List Int) (l0_5 : List Int) : Option (Int × Bool) := (spec_moGood.f k a0_0 a0_1 a0_2 l0_3 l0_4 l0_5).bind fun t519 => (if t519 = true then (spec_RichestBlock.l0 k 0 (l0_3.length : Int) 0 a0_0 a0_1 a0_2 l0_3 l0_4 l0_5) else (some (0, false)))
theorem spec_RichestBlock.calls (k : Nat) (a0_0 : Int) (a0_1 : Int) (a0_2 : Int) (A0_3 : Option Addr) (c0_3 : Nat) (l0_3 : List Int) (A0_4 : Option Addr) (c0_4 : Nat) (l0_4 : List Int) (A0_5 : Option Addr) (c0_5 : Nat) (l0_5 : List Int) (r1 : Int) (r2 : Bool) (w : World) (hr0_3 : Kd.C (Kd.int .i64) w A0_3 l0_3.length l0_3) (hc0_3 : l0_3.length ≤ c0_3) (hr0_4 : Kd.C (Kd.int .i64) w A0_4 l0_4.length l0_4) (hc0_4 : l0_4.length ≤ c0_4) (hr0_5 : Kd.C (Kd.int .i64) w A0_5 l0_5.length l0_5) (hc0_5 : l0_5.length ≤ c0_5) (h : spec_RichestBlock.f k a0_0 a0_1 a0_2 l0_3 l0_4 l0_5 = some (r1, r2)) :
  Calls Tryz.prog 19 #[.agg #[.int .i64 a0_0, .int .i64 a0_1, .int .i64 a0_2, .slice A0_3 l0_3.length c0_3, .slice A0_4 l0_4.length c0_4, .slice A0_5 l0_5.length c0_5]] w fun e w' => e = .returned (.tuple #[.int .i64 r1, .bool r2]) ∧ Below w.heap.size w w' := by
 have hu28 := Tryz.underlying28
 have HR0_3 := am_ hr0_3
 have HC0_3 := am_ hc0_3
 clear hr0_3 hc0_3
 have HR0_4 := am_ hr0_4
 have HC0_4 := am_ hc0_4
 clear hr0_4 hc0_4
 have HR0_5 := am_ hr0_5
 have HC0_5 := am_ hc0_5
 clear hr0_5 hc0_5
 have HB := am_ (Below.refl w.heap.size w)
 have H := h
 unfold spec_RichestBlock.f at H
 clear h
 revert H; refine bn_ ?_; rintro t519 A2 H; try dsimp only at H
 by_cases c3 : t519 = true
 ·subst c3
  rw [if_pos rfl] at H
  have H' := am_ H
  clear H
  go_enter Tryz.func19, Tryz.ntmps19
  go_wp2_with (first | ((with_reducible refine gate_dst (N := 1) rfl ?_); refine bv_ 1 (cs := #[.int .i64 a0_0, .int .i64 a0_1, .int .i64 a0_2, .slice A0_3 l0_3.length c0_3, .slice A0_4 l0_4.length c0_4, .slice A0_5 l0_5.length c0_5]) (t := 28) ?_; intro gb518 hg w4 hbox hb; have BK518 := am_ (hbox); have GW518 := gs_ hg HB; have GE518 := gs_ hg HB; replace HB := hbs_ HB hb; clear hb hbox hg; obtain ⟨hcz5_0, hcz5_1, hcz5_2, hcz5_3, hcz5_4, hcz5_5, hfz5_0, hfz5_1, hfz5_2, hfz5_3, hfz5_4, hfz5_5⟩ := bx6 BK518) | ((with_reducible refine gk_ 31 ?_); refine gq_ 7 Tryz.func31 #[.agg #[.int .i64 a0_0, .int .i64 a0_1, .int .i64 a0_2, .slice A0_3 l0_3.length c0_3, .slice A0_4 l0_4.length c0_4, .slice A0_5 l0_5.length c0_5]] ?_; (with_reducible refine (spec_moGood.calls k a0_0 a0_1 a0_2 _ _ l0_3 _ _ l0_4 _ _ l0_5 true _ ?_ ?_ ?_ ?_ ?_ ?_ A2.out).mono ?_); exact Kd.C_w HR0_3 HB; exact HC0_3.out; exact Kd.C_w HR0_4 HB; exact HC0_4.out; exact Kd.C_w HR0_5 HB; exact HC0_5.out; rintro e w6 ⟨rfl, hb⟩; refine ⟨_, rfl, ?_⟩; replace BK518 := kb_ BK518 hb; replace HB := hbs_ HB hb; obtain ⟨hcz7_0, hcz7_1, hcz7_2, hcz7_3, hcz7_4, hcz7_5, hfz7_0, hfz7_1, hfz7_2, hfz7_3, hfz7_4, hfz7_5⟩ := bx6 BK518))
  go_loopg [4, 12] k (fun kq v4 v12 w' => ∃ (x4_1 : Int) (x12_1 : Int), v4 = .int .i64 x4_1 ∧ v12 = .int .i64 x12_1 ∧ Aside0 (spec_RichestBlock.l0 kq x4_1 (l0_3.length : Int) x12_1 a0_0 a0_1 a0_2 l0_3 l0_4 l0_5 = some (r1, r2)) ∧ Aside0 (kq ≤ k) ∧ Aside0 (w'.heap[gb518]? = some (.cells #[.int .i64 a0_0, .int .i64 a0_1, .int .i64 a0_2, (.slice A0_3 l0_3.length c0_3), (.slice A0_4 l0_4.length c0_4), (.slice A0_5 l0_5.length c0_5)] 28 (0, 0))) ∧ Aside0 (Below w.heap.size w w'))
  case atStart => exact ⟨(0), (0), sr_, sr_, H', ⟨Nat.le_refl _⟩, ⟨kp_ BK518⟩, ⟨hb_ HB⟩⟩
  clear H'
  obtain ⟨x4_1, x12_1, rfl, rfl, HA, HK1, BK518, HB⟩ := hrel
  cases gk with
  | zero => exact absurd HA.out (by simp [spec_RichestBlock.l0])
  | succ k1 => ?_
  have H := HA.out
  clear HA
  simp only [spec_RichestBlock.l0] at H
  by_cases c8 : x12_1 < (l0_3.length : Int)
  case neg => rw [if_neg c8] at H; have c8b0 := decide_eq_false c8; clear c8; simp only [Option.some.injEq, Prod.mk.injEq] at H; obtain ⟨rfl, rfl⟩ := H; go_wp2; go_ret2; exact ad_ (hb_ HB)
  rw [if_pos c8] at H
  have c8b0 := decide_eq_true c8
  clear c8
  revert H; refine bn_ ?_; rintro t520 A9 H; try dsimp only at H
  revert H; refine bn_ ?_; rintro t521 A10 H; try dsimp only at H
  by_cases c11 : t520 > t521
  ·rw [if_pos c11] at H
   have c11b0 : decide (t521 < t520) = true := decide_eq_true c11
   clear c11
   have H' := am_ H
   clear H
   try go_wp2
   replace BK518 := am_ (blk_drew BK518.out)
   replace HB := am_ (below_drew1 HB.out)
   refine start_ (n := 7) (S := fun w' => w'.cell? ⟨gb518, 0, none⟩ = some (.int .i64 a0_0) ∧ w'.cell? ⟨gb518, 1, none⟩ = some (.int .i64 a0_1) ∧ w'.cell? ⟨gb518, 2, none⟩ = some (.int .i64 a0_2) ∧ w'.cell? ⟨gb518, 3, none⟩ = some (.slice A0_3 l0_3.length c0_3) ∧ w'.cell? ⟨gb518, 4, none⟩ = some (.slice A0_4 l0_4.length c0_4) ∧ w'.cell? ⟨gb518, 5, none⟩ = some (.slice A0_5 l0_5.length c0_5)) (ds := []) (bb 7 0) (by kernel_rfl) rfl rfl ⟨(blk_cell BK518.out 0).trans rfl, (blk_cell BK518.out 1).trans rfl, (blk_cell BK518.out 2).trans rfl, (blk_cell BK518.out 3).trans rfl, (blk_cell BK518.out 4).trans rfl, (blk_cell BK518.out 5).trans rfl⟩ (fun hHeld => ?_)
   generalize wr.drew = w12 at BK518 HB hHeld ⊢
   refine pure_ (i := 1) (N := some 16) (v := ?_) (a' := ?_) (bb 7 2) rfl rfl (by kernel_rfl) (fun _ _ _ h => h) (Or.inl ⟨by rfl, ?_⟩) ?_ ?_
   rotate_left
   ·intro w'
    go_simp
    with_reducible rfl
   rotate_left
   ·simp only [Act.put, List.setIfInBounds_toArray, List.set_cons_zero, List.set_cons_succ, i64_w, i32_w]
    rfl
   refine pure_ (i := 4) (N := some 19) (v := ?_) (a' := ?_) (bb 7 18) rfl rfl (by kernel_rfl) (fun _ _ _ h => h) (Or.inl ⟨by rfl, ?_⟩) ?_ ?_
   rotate_left
   ·intro w'
    go_simp
    with_reducible rfl
   rotate_left
   ·simp only [Act.put, List.setIfInBounds_toArray, List.set_cons_zero, List.set_cons_succ, i64_w, i32_w]
    rfl
   refine take_ (i := 0) (N := some 15) (v := ?_) (a' := ?_) (bb 7 19) rfl rfl (by kernel_rfl) (fun _ _ _ h => h) (Or.inl ⟨by rfl, ?_⟩) hHeld ?_ ?_
   rotate_left
   ·rintro w' ⟨s0, s1, s2, s3, s4, s5⟩
    go_simp
    with_reducible rfl
   rotate_left
   ·simp only [Act.put, List.setIfInBounds_toArray, List.set_cons_zero, List.set_cons_succ, i64_w, i32_w]
    rfl
   refine take_ (i := 3) (N := some 18) (v := ?_) (a' := ?_) (bb 7 27) rfl rfl (by kernel_rfl) (fun _ _ _ h => h) (Or.inl ⟨by rfl, ?_⟩) hHeld ?_ ?_
   rotate_left
   ·rintro w' ⟨s0, s1, s2, s3, s4, s5⟩
    go_simp
    with_reducible rfl
   rotate_left
   ·simp only [Act.put, List.setIfInBounds_toArray, List.set_cons_zero, List.set_cons_succ, i64_w, i32_w]
    rfl
   refine one_ (i := 2) (N := some 17) (bb 7 31) rfl rfl (by kernel_rfl) (by decide) (fun K hK => ?_)
   refine goes_ Tryz.func44 (by kernel_rfl) rfl #[.agg #[.int .i64 a0_0, .int .i64 a0_1, .int .i64 a0_2, .slice A0_3 l0_3.length c0_3, .slice A0_4 l0_4.length c0_4, .slice A0_5 l0_5.length c0_5], .int .i64 x12_1] (by rfl) rfl rfl (by (try simp only [List.map_toArray, List.map_cons, List.map_nil]); first | done | rfl | (simp only [List.length_drop, List.length_take]; rfl)) ?_
   with_reducible refine (spec_moMetal.calls a0_0 a0_1 a0_2 _ _ l0_3 _ _ l0_4 _ _ l0_5 x12_1 t520 _ ?side1 ?side2 ?side3 ?side4 ?side5 ?side6 A9.out).mono ?_
   (case side1 => exact Kd.C_w HR0_3 HB)
   (case side2 => exact HC0_3.out)
   (case side3 => exact Kd.C_w HR0_4 HB)
   (case side4 => exact HC0_4.out)
   (case side5 => exact Kd.C_w HR0_5 HB)
   (case side6 => exact HC0_5.out)
   rintro e w13 ⟨rfl, hb⟩
   refine ⟨_, rfl, ?_⟩
   replace BK518 := am_ (blk_below (kp_ BK518) hb)
   replace HB := am_ (below_step (hb_ HB) hb)
   refine hK.out _ _ ⟨(blk_cell BK518.out 0).trans rfl, (blk_cell BK518.out 1).trans rfl, (blk_cell BK518.out 2).trans rfl, (blk_cell BK518.out 3).trans rfl, (blk_cell BK518.out 4).trans rfl, (blk_cell BK518.out 5).trans rfl⟩ (fun hHeld => ?_)
   clear hK K
   refine nm_ (some 17) (h := ?_)
   refine one_ (i := 5) (N := some 20) (bb 7 63) rfl rfl (by kernel_rfl) (by decide) (fun K hK => ?_)
   refine goes_ Tryz.func44 (by kernel_rfl) rfl #[.agg #[.int .i64 a0_0, .int .i64 a0_1, .int .i64 a0_2, .slice A0_3 l0_3.length c0_3, .slice A0_4 l0_4.length c0_4, .slice A0_5 l0_5.length c0_5], .int .i64 x4_1] (by rfl) rfl rfl (by (try simp only [List.map_toArray, List.map_cons, List.map_nil]); first | done | rfl | (simp only [List.length_drop, List.length_take]; rfl)) ?_
   with_reducible refine (spec_moMetal.calls a0_0 a0_1 a0_2 _ _ l0_3 _ _ l0_4 _ _ l0_5 x4_1 t521 _ ?side1 ?side2 ?side3 ?side4 ?side5 ?side6 A10.out).mono ?_
   (case side1 => exact Kd.C_w HR0_3 HB)
   (case side2 => exact HC0_3.out)
   (case side3 => exact Kd.C_w HR0_4 HB)
   (case side4 => exact HC0_4.out)
   (case side5 => exact Kd.C_w HR0_5 HB)
   (case side6 => exact HC0_5.out)
   rintro e w14 ⟨rfl, hb⟩
   refine ⟨_, rfl, ?_⟩
   replace BK518 := am_ (blk_below (kp_ BK518) hb)
   replace HB := am_ (below_step (hb_ HB) hb)
   refine hK.out _ _ ⟨(blk_cell BK518.out 0).trans rfl, (blk_cell BK518.out 1).trans rfl, (blk_cell BK518.out 2).trans rfl, (blk_cell BK518.out 3).trans rfl, (blk_cell BK518.out 4).trans rfl, (blk_cell BK518.out 5).trans rfl⟩ (fun hHeld => ?_)
   clear hK K
   refine nm_ (some 20) (h := ?_)
   refine pure_ (i := 6) (N := some 21) (v := ?_) (a' := ?_) (bb 7 127) rfl rfl (by kernel_rfl) (fun _ _ _ h => h) (Or.inl ⟨by rfl, ?_⟩) ?_ ?_
   rotate_left
   ·intro w'
    go_simp
    with_reducible rfl
   rotate_left
   ·simp only [Act.put, List.setIfInBounds_toArray, List.set_cons_zero, List.set_cons_succ, i64_w, i32_w]
    rfl
   refine done_ (by kernel_rfl) ?_
   try go_wp2
   go_roundg k1
   case measure => have := HK1.out; omega
   case rel => exact ⟨(x12_1), (wrap64 (x12_1 + 1)), sr_, sr_, H', ⟨by have := HK1.out; omega⟩, ⟨kp_ BK518⟩, ⟨hb_ HB⟩⟩
  rw [if_neg c11] at H
  have c11b0 : decide (t521 < t520) = false := decide_eq_false c11
  clear c11
  have H' := am_ H
  clear H
  try go_wp2
  replace BK518 := am_ (blk_drew BK518.out)
  replace HB := am_ (below_drew1 HB.out)
  refine start_ (n := 7) (S := fun w' => w'.cell? ⟨gb518, 0, none⟩ = some (.int .i64 a0_0) ∧ w'.cell? ⟨gb518, 1, none⟩ = some (.int .i64 a0_1) ∧ w'.cell? ⟨gb518, 2, none⟩ = some (.int .i64 a0_2) ∧ w'.cell? ⟨gb518, 3, none⟩ = some (.slice A0_3 l0_3.length c0_3) ∧ w'.cell? ⟨gb518, 4, none⟩ = some (.slice A0_4 l0_4.length c0_4) ∧ w'.cell? ⟨gb518, 5, none⟩ = some (.slice A0_5 l0_5.length c0_5)) (ds := []) (bb 7 0) (by kernel_rfl) rfl rfl ⟨(blk_cell BK518.out 0).trans rfl, (blk_cell BK518.out 1).trans rfl, (blk_cell BK518.out 2).trans rfl, (blk_cell BK518.out 3).trans rfl, (blk_cell BK518.out 4).trans rfl, (blk_cell BK518.out 5).trans rfl⟩ (fun hHeld => ?_)
  generalize wr.drew = w15 at BK518 HB hHeld ⊢
  refine pure_ (i := 1) (N := some 16) (v := ?_) (a' := ?_) (bb 7 2) rfl rfl (by kernel_rfl) (fun _ _ _ h => h) (Or.inl ⟨by rfl, ?_⟩) ?_ ?_
  rotate_left
  ·intro w'
   go_simp
   with_reducible rfl
  rotate_left
  ·simp only [Act.put, List.setIfInBounds_toArray, List.set_cons_zero, List.set_cons_succ, i64_w, i32_w]
   rfl
  refine pure_ (i := 4) (N := some 19) (v := ?_) (a' := ?_) (bb 7 18) rfl rfl (by kernel_rfl) (fun _ _ _ h => h) (Or.inl ⟨by rfl, ?_⟩) ?_ ?_
  rotate_left
  ·intro w'
   go_simp
   with_reducible rfl
  rotate_left
  ·simp only [Act.put, List.setIfInBounds_toArray, List.set_cons_zero, List.set_cons_succ, i64_w, i32_w]
   rfl
  refine take_ (i := 0) (N := some 15) (v := ?_) (a' := ?_) (bb 7 19) rfl rfl (by kernel_rfl) (fun _ _ _ h => h) (Or.inl ⟨by rfl, ?_⟩) hHeld ?_ ?_
  rotate_left
  ·rintro w' ⟨s0, s1, s2, s3, s4, s5⟩
   go_simp
   with_reducible rfl
  rotate_left
  ·simp only [Act.put, List.setIfInBounds_toArray, List.set_cons_zero, List.set_cons_succ, i64_w, i32_w]
   rfl
  refine take_ (i := 3) (N := some 18) (v := ?_) (a' := ?_) (bb 7 27) rfl rfl (by kernel_rfl) (fun _ _ _ h => h) (Or.inl ⟨by rfl, ?_⟩) hHeld ?_ ?_
  rotate_left
  ·rintro w' ⟨s0, s1, s2, s3, s4, s5⟩
   go_simp
   with_reducible rfl
  rotate_left
  ·simp only [Act.put, List.setIfInBounds_toArray, List.set_cons_zero, List.set_cons_succ, i64_w, i32_w]
   rfl
  refine one_ (i := 2) (N := some 17) (bb 7 31) rfl rfl (by kernel_rfl) (by decide) (fun K hK => ?_)
  refine goes_ Tryz.func44 (by kernel_rfl) rfl #[.agg #[.int .i64 a0_0, .int .i64 a0_1, .int .i64 a0_2, .slice A0_3 l0_3.length c0_3, .slice A0_4 l0_4.length c0_4, .slice A0_5 l0_5.length c0_5], .int .i64 x12_1] (by rfl) rfl rfl (by (try simp only [List.map_toArray, List.map_cons, List.map_nil]); first | done | rfl | (simp only [List.length_drop, List.length_take]; rfl)) ?_
  with_reducible refine (spec_moMetal.calls a0_0 a0_1 a0_2 _ _ l0_3 _ _ l0_4 _ _ l0_5 x12_1 t520 _ ?side1 ?side2 ?side3 ?side4 ?side5 ?side6 A9.out).mono ?_
  (case side1 => exact Kd.C_w HR0_3 HB)
  (case side2 => exact HC0_3.out)
  (case side3 => exact Kd.C_w HR0_4 HB)
  (case side4 => exact HC0_4.out)
  (case side5 => exact Kd.C_w HR0_5 HB)
  (case side6 => exact HC0_5.out)
  rintro e w16 ⟨rfl, hb⟩
  refine ⟨_, rfl, ?_⟩
  replace BK518 := am_ (blk_below (kp_ BK518) hb)
  replace HB := am_ (below_step (hb_ HB) hb)
  refine hK.out _ _ ⟨(blk_cell BK518.out 0).trans rfl, (blk_cell BK518.out 1).trans rfl, (blk_cell BK518.out 2).trans rfl, (blk_cell BK518.out 3).trans rfl, (blk_cell BK518.out 4).trans rfl, (blk_cell BK518.out 5).trans rfl⟩ (fun hHeld => ?_)
  clear hK K
  refine nm_ (some 17) (h := ?_)
  refine one_ (i := 5) (N := some 20) (bb 7 63) rfl rfl (by kernel_rfl) (by decide) (fun K hK => ?_)
  refine goes_ Tryz.func44 (by kernel_rfl) rfl #[.agg #[.int .i64 a0_0, .int .i64 a0_1, .int .i64 a0_2, .slice A0_3 l0_3.length c0_3, .slice A0_4 l0_4.length c0_4, .slice A0_5 l0_5.length c0_5], .int .i64 x4_1] (by rfl) rfl rfl (by (try simp only [List.map_toArray, List.map_cons, List.map_nil]); first | done | rfl | (simp only [List.length_drop, List.length_take]; rfl)) ?_
  with_reducible refine (spec_moMetal.calls a0_0 a0_1 a0_2 _ _ l0_3 _ _ l0_4 _ _ l0_5 x4_1 t521 _ ?side1 ?side2 ?side3 ?side4 ?side5 ?side6 A10.out).mono ?_
  (case side1 => exact Kd.C_w HR0_3 HB)
  (case side2 => exact HC0_3.out)
  (case side3 => exact Kd.C_w HR0_4 HB)
  (case side4 => exact HC0_4.out)
  (case side5 => exact Kd.C_w HR0_5 HB)
  (case side6 => exact HC0_5.out)
  rintro e w17 ⟨rfl, hb⟩
  refine ⟨_, rfl, ?_⟩
  replace BK518 := am_ (blk_below (kp_ BK518) hb)
  replace HB := am_ (below_step (hb_ HB) hb)
  refine hK.out _ _ ⟨(blk_cell BK518.out 0).trans rfl, (blk_cell BK518.out 1).trans rfl, (blk_cell BK518.out 2).trans rfl, (blk_cell BK518.out 3).trans rfl, (blk_cell BK518.out 4).trans rfl, (blk_cell BK518.out 5).trans rfl⟩ (fun hHeld => ?_)
  clear hK K
  refine nm_ (some 20) (h := ?_)
  refine pure_ (i := 6) (N := some 21) (v := ?_) (a' := ?_) (bb 7 127) rfl rfl (by kernel_rfl) (fun _ _ _ h => h) (Or.inl ⟨by rfl, ?_⟩) ?_ ?_
  rotate_left
  ·intro w'
   go_simp
   with_reducible rfl
  rotate_left
  ·simp only [Act.put, List.setIfInBounds_toArray, List.set_cons_zero, List.set_cons_succ, i64_w, i32_w]
   rfl
  refine done_ (by kernel_rfl) ?_
  try go_wp2
  go_roundg k1
  case measure => have := HK1.out; omega
  case rel => exact ⟨(x4_1), (wrap64 (x12_1 + 1)), sr_, sr_, H', ⟨by have := HK1.out; omega⟩, ⟨kp_ BK518⟩, ⟨hb_ HB⟩⟩
 replace c3 := Bool.eq_false_iff.mpr c3
 subst c3
 rw [if_neg (show ¬ (false = true) by decide)] at H
 simp only [Option.some.injEq, Prod.mk.injEq] at H
 obtain ⟨rfl, rfl⟩ := H
 go_enter Tryz.func19, Tryz.ntmps19
 go_wp2_with (first | ((with_reducible refine gate_dst (N := 1) rfl ?_); refine bv_ 1 (cs := #[.int .i64 a0_0, .int .i64 a0_1, .int .i64 a0_2, .slice A0_3 l0_3.length c0_3, .slice A0_4 l0_4.length c0_4, .slice A0_5 l0_5.length c0_5]) (t := 28) ?_; intro gb518 hg w18 hbox hb; have BK518 := am_ (hbox); have GW518 := gs_ hg HB; have GE518 := gs_ hg HB; replace HB := hbs_ HB hb; clear hb hbox hg; obtain ⟨hcz19_0, hcz19_1, hcz19_2, hcz19_3, hcz19_4, hcz19_5, hfz19_0, hfz19_1, hfz19_2, hfz19_3, hfz19_4, hfz19_5⟩ := bx6 BK518) | ((with_reducible refine gk_ 31 ?_); refine gq_ 7 Tryz.func31 #[.agg #[.int .i64 a0_0, .int .i64 a0_1, .int .i64 a0_2, .slice A0_3 l0_3.length c0_3, .slice A0_4 l0_4.length c0_4, .slice A0_5 l0_5.length c0_5]] ?_; (with_reducible refine (spec_moGood.calls k a0_0 a0_1 a0_2 _ _ l0_3 _ _ l0_4 _ _ l0_5 false _ ?_ ?_ ?_ ?_ ?_ ?_ A2.out).mono ?_); exact Kd.C_w HR0_3 HB; exact HC0_3.out; exact Kd.C_w HR0_4 HB; exact HC0_4.out; exact Kd.C_w HR0_5 HB; exact HC0_5.out; rintro e w20 ⟨rfl, hb⟩; refine ⟨_, rfl, ?_⟩; replace BK518 := kb_ BK518 hb; replace HB := hbs_ HB hb))
 go_ret2
 exact ad_ (hb_ HB)

/-! ### impl_MetalOf: function 20 -/
def impl_MetalOf.f (k : Nat) (a0_0 : Int) (a0_1 : Int) (a0_2 : Int) (l0_3 : List Int) (l0_4 : List Int) (l0_5 : List Int) (a1 : Int) : Option (Int × Bool) := (impl_IsModel.f k a0_0 a0_1 a0_2 l0_3 l0_4 l0_5).bind fun t523 => (if t523 = true then (if a1 < 0 then (some (0, false)) else (if a1 ≥ (l0_3.length : Int) then (some (0, false)) else (if 0 ≤ a1 then (if a1 < (l0_3.length : Int) then (if a1 < (l0_4.length : Int) then (some (wrap64 ((rd l0_3 a1) * (rd l0_4 a1)), true)) else (none)) else (none)) else (none)))) else (some (0, false)))
theorem impl_MetalOf.calls (k : Nat) (a0_0 : Int) (a0_1 : Int) (a0_2 : Int) (A0_3 : Option Addr) (c0_3 : Nat) (l0_3 : List Int) (A0_4 : Option Addr) (c0_4 : Nat) (l0_4 : List Int) (A0_5 : Option Addr) (c0_5 : Nat) (l0_5 : List Int) (a1 : Int) (r1 : Int) (r2 : Bool) (w : World) (hr0_3 : Kd.C (Kd.int .i64) w A0_3 l0_3.length l0_3) (hc0_3 : l0_3.length ≤ c0_3) (hr0_4 : Kd.C (Kd.int .i64) w A0_4 l0_4.length l0_4) (hc0_4 : l0_4.length ≤ c0_4) (hr0_5 : Kd.C (Kd.int .i64) w A0_5 l0_5.length l0_5) (hc0_5 : l0_5.length ≤ c0_5) (h : impl_MetalOf.f k a0_0 a0_1 a0_2 l0_3 l0_4 l0_5 a1 = some (r1, r2)) :
  Calls Tryz.prog 20 #[.agg #[.int .i64 a0_0, .int .i64 a0_1, .int .i64 a0_2, .slice A0_3 l0_3.length c0_3, .slice A0_4 l0_4.length c0_4, .slice A0_5 l0_5.length c0_5], .int .i64 a1] w fun e w' => e = .returned (.tuple #[.int .i64 r1, .bool r2]) ∧ Below w.heap.size w w' := by
 have hu28 := Tryz.underlying28
 have HR0_3 := am_ hr0_3
 have HC0_3 := am_ hc0_3
 clear hr0_3 hc0_3
 have HR0_4 := am_ hr0_4
 have HC0_4 := am_ hc0_4
 clear hr0_4 hc0_4
 have HR0_5 := am_ hr0_5
 have HC0_5 := am_ hc0_5
 clear hr0_5 hc0_5
 have HB := am_ (Below.refl w.heap.size w)
 have H := h
 unfold impl_MetalOf.f at H
 clear h
 revert H; refine bn_ ?_; rintro t523 A3 H; try dsimp only at H
 by_cases c4 : t523 = true
 ·subst c4
  rw [if_pos rfl] at H
  by_cases c5 : a1 < 0
  ·rw [if_pos c5] at H
   have c5b0 := decide_eq_true c5
   clear c5
   simp only [Option.some.injEq, Prod.mk.injEq] at H
   obtain ⟨rfl, rfl⟩ := H
   go_enter Tryz.func20, Tryz.ntmps20
   go_wp2_with (first | ((with_reducible refine gate_dst (N := 2) rfl ?_); (try (refine gate_guard (by rfl) ?_; dsimp only)); refine bv_ 2 (cs := #[.int .i64 a0_0, .int .i64 a0_1, .int .i64 a0_2, .slice A0_3 l0_3.length c0_3, .slice A0_4 l0_4.length c0_4, .slice A0_5 l0_5.length c0_5]) (t := 28) ?_; intro gb522 hg w6 hbox hb; have BK522 := am_ (hbox); have GW522 := gs_ hg HB; have GE522 := gs_ hg HB; replace HB := hbs_ HB hb; clear hb hbox hg; obtain ⟨hcz7_0, hcz7_1, hcz7_2, hcz7_3, hcz7_4, hcz7_5, hfz7_0, hfz7_1, hfz7_2, hfz7_3, hfz7_4, hfz7_5⟩ := bx6 BK522) | (go_at_call 8; (with_reducible refine (impl_IsModel.calls k a0_0 a0_1 a0_2 _ _ l0_3 _ _ l0_4 _ _ l0_5 true _ ?_ ?_ ?_ ?_ ?_ ?_ A3.out).mono ?_); exact Kd.C_w HR0_3 HB; exact HC0_3.out; exact Kd.C_w HR0_4 HB; exact HC0_4.out; exact Kd.C_w HR0_5 HB; exact HC0_5.out; rintro e w8 ⟨rfl, hb⟩; replace BK522 := am_ (blk_below (kp_ BK522) hb); replace HB := am_ (below_step (hb_ HB) hb)))
   repeat (go_quiet (fail); try go_wp2)
   go_ret2
   exact ad_ (hb_ HB)
  rw [if_neg c5] at H
  have c5b0 := decide_eq_false c5
  clear c5
  by_cases c9 : a1 ≥ (l0_3.length : Int)
  ·rw [if_pos c9] at H
   have c9b0 : decide ((l0_3.length : Int) ≤ a1) = true := decide_eq_true c9
   clear c9
   simp only [Option.some.injEq, Prod.mk.injEq] at H
   obtain ⟨rfl, rfl⟩ := H
   go_enter Tryz.func20, Tryz.ntmps20
   go_wp2_with (first | ((with_reducible refine gate_dst (N := 2) rfl ?_); (try (refine gate_guard (by rfl) ?_; dsimp only)); refine bv_ 2 (cs := #[.int .i64 a0_0, .int .i64 a0_1, .int .i64 a0_2, .slice A0_3 l0_3.length c0_3, .slice A0_4 l0_4.length c0_4, .slice A0_5 l0_5.length c0_5]) (t := 28) ?_; intro gb522 hg w10 hbox hb; have BK522 := am_ (hbox); have GW522 := gs_ hg HB; have GE522 := gs_ hg HB; replace HB := hbs_ HB hb; clear hb hbox hg; obtain ⟨hcz11_0, hcz11_1, hcz11_2, hcz11_3, hcz11_4, hcz11_5, hfz11_0, hfz11_1, hfz11_2, hfz11_3, hfz11_4, hfz11_5⟩ := bx6 BK522) | (go_at_call 8; (with_reducible refine (impl_IsModel.calls k a0_0 a0_1 a0_2 _ _ l0_3 _ _ l0_4 _ _ l0_5 true _ ?_ ?_ ?_ ?_ ?_ ?_ A3.out).mono ?_); exact Kd.C_w HR0_3 HB; exact HC0_3.out; exact Kd.C_w HR0_4 HB; exact HC0_4.out; exact Kd.C_w HR0_5 HB; exact HC0_5.out; rintro e w12 ⟨rfl, hb⟩; replace BK522 := am_ (blk_below (kp_ BK522) hb); replace HB := am_ (below_step (hb_ HB) hb); obtain ⟨hcz13_0, hcz13_1, hcz13_2, hcz13_3, hcz13_4, hcz13_5, hfz13_0, hfz13_1, hfz13_2, hfz13_3, hfz13_4, hfz13_5⟩ := bx6 BK522))
   repeat (go_quiet (fail); try go_wp2)
   go_ret2
   exact ad_ (hb_ HB)
  rw [if_neg c9] at H
  have c9b0 : decide ((l0_3.length : Int) ≤ a1) = false := decide_eq_false c9
  clear c9
  revert H; refine pd_ fun c14b0 H => ?_
  revert H; refine pd_ fun c15b0 H => ?_
  revert H; refine pd_ fun c16b0 H => ?_
  simp only [Option.some.injEq, Prod.mk.injEq] at H
  obtain ⟨rfl, rfl⟩ := H
  go_enter Tryz.func20, Tryz.ntmps20
  go_wp2_with (first | ((with_reducible refine gate_dst (N := 2) rfl ?_); (try (refine gate_guard (by rfl) ?_; dsimp only)); refine bv_ 2 (cs := #[.int .i64 a0_0, .int .i64 a0_1, .int .i64 a0_2, .slice A0_3 l0_3.length c0_3, .slice A0_4 l0_4.length c0_4, .slice A0_5 l0_5.length c0_5]) (t := 28) ?_; intro gb522 hg w17 hbox hb; have BK522 := am_ (hbox); have GW522 := gs_ hg HB; have GE522 := gs_ hg HB; replace HB := hbs_ HB hb; clear hb hbox hg; obtain ⟨hcz18_0, hcz18_1, hcz18_2, hcz18_3, hcz18_4, hcz18_5, hfz18_0, hfz18_1, hfz18_2, hfz18_3, hfz18_4, hfz18_5⟩ := bx6 BK522) | (go_at_call 8; (with_reducible refine (impl_IsModel.calls k a0_0 a0_1 a0_2 _ _ l0_3 _ _ l0_4 _ _ l0_5 true _ ?_ ?_ ?_ ?_ ?_ ?_ A3.out).mono ?_); exact Kd.C_w HR0_3 HB; exact HC0_3.out; exact Kd.C_w HR0_4 HB; exact HC0_4.out; exact Kd.C_w HR0_5 HB; exact HC0_5.out; rintro e w19 ⟨rfl, hb⟩; replace BK522 := am_ (blk_below (kp_ BK522) hb); replace HB := am_ (below_step (hb_ HB) hb); obtain ⟨hcz20_0, hcz20_1, hcz20_2, hcz20_3, hcz20_4, hcz20_5, hfz20_0, hfz20_1, hfz20_2, hfz20_3, hfz20_4, hfz20_5⟩ := bx6 BK522; have p524 : 0 ≤ (a1 : Int) := od_; have q524 : a1 < (l0_3.length : Int) := od_; obtain ⟨ad524, e524, hx524_0⟩ := Kd.at_int HR0_3.out a1 p524 q524; cases e524; replace hx524_0 := hc_ HB hx524_0; replace p524 := eq_true p524; replace q524 := eq_true q524; have p525 : 0 ≤ (a1 : Int) := od_; have q525 : a1 < (l0_4.length : Int) := od_; obtain ⟨ad525, e525, hx525_0⟩ := Kd.at_int HR0_4.out a1 p525 q525; cases e525; replace hx525_0 := hc_ HB hx525_0; replace p525 := eq_true p525; replace q525 := eq_true q525))
  repeat (go_quiet (fail); try go_wp2)
  go_ret2
  exact ad_ (hb_ HB)
 replace c4 := Bool.eq_false_iff.mpr c4
 subst c4
 rw [if_neg (show ¬ (false = true) by decide)] at H
 simp only [Option.some.injEq, Prod.mk.injEq] at H
 obtain ⟨rfl, rfl⟩ := H
 go_enter Tryz.func20, Tryz.ntmps20
 go_wp2_with (first | ((with_reducible refine gate_dst (N := 2) rfl ?_); (try (refine gate_guard (by rfl) ?_; dsimp only)); refine bv_ 2 (cs := #[.int .i64 a0_0, .int .i64 a0_1, .int .i64 a0_2, .slice A0_3 l0_3.length c0_3, .slice A0_4 l0_4.length c0_4, .slice A0_5 l0_5.length c0_5]) (t := 28) ?_; intro gb522 hg w21 hbox hb; have BK522 := am_ (hbox); have GW522 := gs_ hg HB; have GE522 := gs_ hg HB; replace HB := hbs_ HB hb; clear hb hbox hg; obtain ⟨hcz22_0, hcz22_1, hcz22_2, hcz22_3, hcz22_4, hcz22_5, hfz22_0, hfz22_1, hfz22_2, hfz22_3, hfz22_4, hfz22_5⟩ := bx6 BK522) | (go_at_call 8; (with_reducible refine (impl_IsModel.calls k a0_0 a0_1 a0_2 _ _ l0_3 _ _ l0_4 _ _ l0_5 false _ ?_ ?_ ?_ ?_ ?_ ?_ A3.out).mono ?_); exact Kd.C_w HR0_3 HB; exact HC0_3.out; exact Kd.C_w HR0_4 HB; exact HC0_4.out; exact Kd.C_w HR0_5 HB; exact HC0_5.out; rintro e w23 ⟨rfl, hb⟩; replace BK522 := am_ (blk_below (kp_ BK522) hb); replace HB := am_ (below_step (hb_ HB) hb)))
 repeat (go_quiet (fail); try go_wp2)
 go_ret2
 exact ad_ (hb_ HB)

end Go.Proofs.YthphbkkkbolcnaaGreatDoor.PFnModels
