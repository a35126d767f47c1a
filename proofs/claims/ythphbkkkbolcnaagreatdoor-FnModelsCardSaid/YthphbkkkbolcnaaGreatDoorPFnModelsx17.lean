-- Laid for this claim by wip/tools/print2.sh, a changed copy of the kit's print (wip/tools/patch_print.py): not by print.sh.
import Derived.Test.YthphbkkkbolcnaaGreatDoorPFnModelsx6
import Derived.Test.YthphbkkkbolcnaaGreatDoorPFnModelsx8
import Derived.Test.YthphbkkkbolcnaaGreatDoorPFnModelsx16
import Derived.Test.YthphbkkkbolcnaaGreatDoorVFnModels
namespace Go.Proofs.YthphbkkkbolcnaaGreatDoor.PFnModels
set_option maxHeartbeats 8000000
set_option maxRecDepth 100000
open Go.RowKit Go.Proofs.YthphbkkkbolcnaaGreatDoorW.PrintWords Go.Proofs.YthphbkkkbolcnaaGreatDoorW.PrintLast Go.Proofs.YthphbkkkbolcnaaGreatDoorW.PrintMore
set_option linter.unusedVariables false
set_option linter.unusedSimpArgs false

/-! ### impl_EmptyBlocks: function 22 -/
mutual
def impl_EmptyBlocks.j0 : Nat → List Int → Bool → Int → Int → Int → List Int → List Int → List Int → Option (Int × Int × Int × List Int × List Int × List Int × Bool)
 | 0, _, _, _, _, _, _, _, _ => none
 | k + 1, x1, x19, x608000, x608001, x608002, x608003, x608004, x608005 => if x19 = true then (some (0, 0, 0, ([] : List Int), ([] : List Int), ([] : List Int), false)) else ((impl_copyModel.f x608000 x608001 x608002 x608003 x608004 x608005).bind fun bt611 => (impl_EmptyBlocks.l0 k x1 (x1.length : Int) 0 bt611.1 bt611.2.1 bt611.2.2.1 bt611.2.2.2.1 bt611.2.2.2.2.1 bt611.2.2.2.2.2))
def impl_EmptyBlocks.l0 : Nat → List Int → Int → Int → Int → Int → Int → List Int → List Int → List Int → Option (Int × Int × Int × List Int × List Int × List Int × Bool)
 | 0, _, _, _, _, _, _, _, _, _ => none
 | k + 1, x23, x24, x25, x624000, x624001, x624002, x624003, x624004, x624005 => if x25 < x24 then (if 0 ≤ x25 then (if x25 < (x23.length : Int) then (if 0 ≤ (rd x23 x25) then (if (rd x23 x25) < (x624003.length : Int) then (impl_EmptyBlocks.l0 k x23 x24 (wrap64 (x25 + 1)) x624000 x624001 x624002 (x624003.set ((rd x23 x25) : Int).toNat 0) x624004 x624005) else (none)) else (none)) else (none)) else (none)) else (some (x624000, x624001, x624002, x624003, x624004, x624005, true))
end
def impl_EmptyBlocks.f (k : Nat) (a0_0 : Int) (a0_1 : Int) (a0_2 : Int) (l0_3 : List Int) (l0_4 : List Int) (l0_5 : List Int) (l1 : List Int) : Option (Int × Int × Int × List Int × List Int × List Int × Bool) := (impl_IsModel.f k a0_0 a0_1 a0_2 l0_3 l0_4 l0_5).bind fun t609 => (if t609 = true then ((impl_areBlocks.f k l1 (l0_3.length : Int)).bind fun t610 => (impl_EmptyBlocks.j0 k l1 (!t610) a0_0 a0_1 a0_2 l0_3 l0_4 l0_5)) else (impl_EmptyBlocks.j0 k l1 true a0_0 a0_1 a0_2 l0_3 l0_4 l0_5))
theorem impl_EmptyBlocks.calls (k : Nat) (a0_0 : Int) (a0_1 : Int) (a0_2 : Int) (A0_3 : Option Addr) (c0_3 : Nat) (l0_3 : List Int) (A0_4 : Option Addr) (c0_4 : Nat) (l0_4 : List Int) (A0_5 : Option Addr) (c0_5 : Nat) (l0_5 : List Int) (A1 : Option Addr) (c1 : Nat) (l1 : List Int) (r1 : Int) (r2 : Int) (r3 : Int) (r4 : List Int) (r5 : List Int) (r6 : List Int) (r7 : Bool) (w : World) (hr0_3 : Kd.C (Kd.int .i64) w A0_3 l0_3.length l0_3) (hc0_3 : l0_3.length ≤ c0_3) (hr0_4 : Kd.C (Kd.int .i64) w A0_4 l0_4.length l0_4) (hc0_4 : l0_4.length ≤ c0_4) (hr0_5 : Kd.C (Kd.int .i64) w A0_5 l0_5.length l0_5) (hc0_5 : l0_5.length ≤ c0_5) (hr1 : Kd.C (Kd.int .i64) w A1 l1.length l1) (hc1 : l1.length ≤ c1) (h : impl_EmptyBlocks.f k a0_0 a0_1 a0_2 l0_3 l0_4 l0_5 l1 = some (r1, r2, r3, r4, r5, r6, r7)) :
  Calls Tryz.prog 22 #[.agg #[.int .i64 a0_0, .int .i64 a0_1, .int .i64 a0_2, .slice A0_3 l0_3.length c0_3, .slice A0_4 l0_4.length c0_4, .slice A0_5 l0_5.length c0_5], .slice A1 l1.length c1] w fun e w' => ∃ v3_ v4_ v5_ : Value, e = .returned (.tuple #[.agg #[.int .i64 r1, .int .i64 r2, .int .i64 r3, v3_, v4_, v5_], .bool r7]) ∧ Kd.R (Kd.int .i64) 3 w' w.heap.size (fun k_ => some k_ ≠ (v4_ : Value).ownBlock ∧ some k_ ≠ (v5_ : Value).ownBlock) v3_ r4 ∧ Kd.R (Kd.int .i64) 3 w' w.heap.size (fun k_ => some k_ ≠ (v3_ : Value).ownBlock ∧ some k_ ≠ (v5_ : Value).ownBlock) v4_ r5 ∧ Kd.R (Kd.int .i64) 3 w' w.heap.size (fun k_ => some k_ ≠ (v3_ : Value).ownBlock ∧ some k_ ≠ (v4_ : Value).ownBlock) v5_ r6 ∧ Below w.heap.size w w' := by
 have hu28 := Tryz.underlying28
 have HR0_3 := am_ hr0_3
 have HC0_3 := am_ hc0_3
 clear hr0_3 hc0_3
 have HR0_4 := am_ hr0_4
 have HC0_4 := am_ hc0_4
 clear hr0_4 hc0_4
 have HR0_5 := am_ hr0_5
 have HC0_5 := am_ hc0_5
 clear hr0_5 hc0_5
 have HR1 := am_ hr1
 have HC1 := am_ hc1
 clear hr1 hc1
 have HB := am_ (Below.refl w.heap.size w)
 have H := h
 unfold impl_EmptyBlocks.f at H
 clear h
 have HC3 := am_ H
 clear H
 go_enter Tryz.func22, Tryz.ntmps22
 go_upto_region 1 with (first | ((with_reducible refine gate_dst (N := 2) rfl ?_); (try (refine gate_guard (by rfl) ?_; dsimp only)); refine bv_ 2 (cs := #[.int .i64 a0_0, .int .i64 a0_1, .int .i64 a0_2, .slice A0_3 l0_3.length c0_3, .slice A0_4 l0_4.length c0_4, .slice A0_5 l0_5.length c0_5]) (t := 28) ?_; intro gb607 hg w4 hbox hb; have BK607 := am_ (hbox); have GW607 := gs_ hg HB; have GE607 := gs_ hg HB; replace HB := hbs_ HB hb; clear hb hbox hg) | ((with_reducible refine gate_dst (N := 4) rfl ?_); (try (refine gate_guard (by rfl) ?_; dsimp only)); refine bv_ 4 (cs := #[.int .i64 0, .int .i64 0, .int .i64 0, .slice none 0 0, .slice none 0 0, .slice none 0 0]) (t := 28) ?_; intro gb608 hg w5 hbox hb; have BK608 := am_ (hbox); have GW608 := gs_ hg HB; have GE608 := gs_ hg HB; have NB607_608 := nl_ hg BK607; have NB608_607 := ng_ hg BK607; replace BK607 := kb_ BK607 hb; replace HB := hbs_ HB hb; clear hb hbox hg))
 (try simp only [Act.put, List.setIfInBounds_toArray, List.set_cons_zero, List.set_cons_succ])
 go_cut [19] (fun v19 wc => ∃ (kq : Nat) (x19_2 : Bool), v19 = .bool x19_2 ∧ Aside0 (impl_EmptyBlocks.j0 kq l1 x19_2 a0_0 a0_1 a0_2 l0_3 l0_4 l0_5 = some (r1, r2, r3, r4, r5, r6, r7)) ∧ Aside0 (kq ≤ k) ∧ Aside0 (wc.heap[gb607]? = some (.cells #[.int .i64 a0_0, .int .i64 a0_1, .int .i64 a0_2, (.slice A0_3 l0_3.length c0_3), (.slice A0_4 l0_4.length c0_4), (.slice A0_5 l0_5.length c0_5)] 28 (0, 0))) ∧ Aside0 (wc.heap[gb608]? = some (.cells #[.int .i64 0, .int .i64 0, .int .i64 0, (.slice none 0 0), (.slice none 0 0), (.slice none 0 0)] 28 (0, 0))) ∧ Aside0 (Below w.heap.size w wc))
 case first =>
  have H := HC3.out
  clear HC3
  revert H; refine bn_ ?_; rintro t609 A6 H; try dsimp only at H
  by_cases c7 : t609 = true
  ·subst c7
   rw [if_pos rfl] at H
   revert H; refine bn_ ?_; rintro t610 A8 H; try dsimp only at H
   have H' := am_ H
   clear H
   have := NB607_608.out
   have := NB608_607.out
   obtain ⟨hcz10_0, hcz10_1, hcz10_2, hcz10_3, hcz10_4, hcz10_5, hfz10_0, hfz10_1, hfz10_2, hfz10_3, hfz10_4, hfz10_5⟩ := bx6 BK607
   go_wp2_with (first | ((with_reducible refine gk_ 8 ?_); refine gq_ 10 Tryz.func8 #[.agg #[.int .i64 a0_0, .int .i64 a0_1, .int .i64 a0_2, .slice A0_3 l0_3.length c0_3, .slice A0_4 l0_4.length c0_4, .slice A0_5 l0_5.length c0_5]] ?_; (with_reducible refine (impl_IsModel.calls k a0_0 a0_1 a0_2 _ _ l0_3 _ _ l0_4 _ _ l0_5 true _ ?_ ?_ ?_ ?_ ?_ ?_ A6.out).mono ?_); exact Kd.C_w HR0_3 HB; exact HC0_3.out; exact Kd.C_w HR0_4 HB; exact HC0_4.out; exact Kd.C_w HR0_5 HB; exact HC0_5.out; rintro e w11 ⟨rfl, hb⟩; refine ⟨_, rfl, ?_⟩; replace BK607 := kb_ BK607 hb; replace BK608 := kb_ BK608 hb; replace HB := hbs_ HB hb; obtain ⟨hcz12_0, hcz12_1, hcz12_2, hcz12_3, hcz12_4, hcz12_5, hfz12_0, hfz12_1, hfz12_2, hfz12_3, hfz12_4, hfz12_5⟩ := bx6 BK607) | (go_at_call 46; (with_reducible refine (impl_areBlocks.calls k _ _ l1 (l0_3.length : Int) t610 _ ?_ ?_ A8.out).mono ?_); exact Kd.C_w HR1 HB; exact HC1.out; rintro e w' ⟨rfl, ⟨nd, rfl⟩⟩))
   go_meet
   case rel => exact ⟨_, (!t610), sr_, H', ⟨by first | omega | exact Nat.le_refl _⟩, ⟨kp_ BK607⟩, ⟨kp_ BK608⟩, ⟨hb_ HB⟩⟩
  replace c7 := Bool.eq_false_iff.mpr c7
  subst c7
  rw [if_neg (show ¬ (false = true) by decide)] at H
  have H' := am_ H
  clear H
  have := NB607_608.out
  have := NB608_607.out
  obtain ⟨hcz14_0, hcz14_1, hcz14_2, hcz14_3, hcz14_4, hcz14_5, hfz14_0, hfz14_1, hfz14_2, hfz14_3, hfz14_4, hfz14_5⟩ := bx6 BK607
  go_wp2_with (first | ((with_reducible refine gk_ 8 ?_); refine gq_ 10 Tryz.func8 #[.agg #[.int .i64 a0_0, .int .i64 a0_1, .int .i64 a0_2, .slice A0_3 l0_3.length c0_3, .slice A0_4 l0_4.length c0_4, .slice A0_5 l0_5.length c0_5]] ?_; (with_reducible refine (impl_IsModel.calls k a0_0 a0_1 a0_2 _ _ l0_3 _ _ l0_4 _ _ l0_5 false _ ?_ ?_ ?_ ?_ ?_ ?_ A6.out).mono ?_); exact Kd.C_w HR0_3 HB; exact HC0_3.out; exact Kd.C_w HR0_4 HB; exact HC0_4.out; exact Kd.C_w HR0_5 HB; exact HC0_5.out; rintro e w15 ⟨rfl, hb⟩; refine ⟨_, rfl, ?_⟩; replace BK607 := kb_ BK607 hb; replace BK608 := kb_ BK608 hb; replace HB := hbs_ HB hb))
  go_meet
  case rel => exact ⟨_, (true), sr_, H', ⟨by first | omega | exact Nat.le_refl _⟩, ⟨kp_ BK607⟩, ⟨kp_ BK608⟩, ⟨hb_ HB⟩⟩
 clear HC3
 obtain ⟨kq, x19_2, rfl, HA, HJ2, BK607, BK608, HB⟩ := hcut
 cases kq with
 | zero => exact absurd HA.out (by simp [impl_EmptyBlocks.j0])
 | succ kj2 => ?_
 have H := HA.out
 clear HA
 simp only [impl_EmptyBlocks.j0] at H
 by_cases c16 : x19_2 = true
 ·subst c16
  rw [if_pos rfl] at H
  simp only [Option.some.injEq, Prod.mk.injEq] at H
  obtain ⟨rfl, rfl, rfl, rfl, rfl, rfl, rfl⟩ := H
  have := NB608_607.out
  have := NB607_608.out
  obtain ⟨hcz18_0, hcz18_1, hcz18_2, hcz18_3, hcz18_4, hcz18_5, hfz18_0, hfz18_1, hfz18_2, hfz18_3, hfz18_4, hfz18_5⟩ := bx6 BK608
  go_wp2
  refine bodyPost_ret (results_ct rfl _ _ gb608 28 #[.int .i64 0, .int .i64 0, .int .i64 0, .slice none 0 0, .slice none 0 0, .slice none 0 0] (0, 0) _ rfl (kpq_ (kputs BK608 [(0, _), (1, _), (2, _), (3, _), (4, _), (5, _)])) Tryz.underlying28 rfl (by kernel_rfl)) rfl ?_
  exact ⟨_, _, _, se_, by first | exact Kd.R_nil _ _ _ _ _ | exact Kd.N_nil _ _ _ _ _ | exact Kd.V_nil _ _ _ _ _ | exact Kd.Q_nil _ _ _ _ _ | exact Kd.S_nil _ _ _ _ _, by first | exact Kd.R_nil _ _ _ _ _ | exact Kd.N_nil _ _ _ _ _ | exact Kd.V_nil _ _ _ _ _ | exact Kd.Q_nil _ _ _ _ _ | exact Kd.S_nil _ _ _ _ _, by first | exact Kd.R_nil _ _ _ _ _ | exact Kd.N_nil _ _ _ _ _ | exact Kd.V_nil _ _ _ _ _ | exact Kd.Q_nil _ _ _ _ _ | exact Kd.S_nil _ _ _ _ _, hb_ HB⟩
 replace c16 := Bool.eq_false_iff.mpr c16
 subst c16
 rw [if_neg (show ¬ (false = true) by decide)] at H
 revert H; refine bn_ ?_; rintro ⟨t611, t612, t613, t614, t617, t620⟩ A19 H; try dsimp only at H
 have H' := am_ H
 clear H
 have := NB607_608.out
 have := NB608_607.out
 obtain ⟨hcz21_0, hcz21_1, hcz21_2, hcz21_3, hcz21_4, hcz21_5, hfz21_0, hfz21_1, hfz21_2, hfz21_3, hfz21_4, hfz21_5⟩ := bx6 BK607
 go_wp2_with (first | ((with_reducible refine gk_ 47 ?_); refine gq_ 22 Tryz.func47 #[.agg #[.int .i64 a0_0, .int .i64 a0_1, .int .i64 a0_2, .slice A0_3 l0_3.length c0_3, .slice A0_4 l0_4.length c0_4, .slice A0_5 l0_5.length c0_5]] ?_; (with_reducible refine (impl_copyModel.calls a0_0 a0_1 a0_2 _ _ l0_3 _ _ l0_4 _ _ l0_5 t611 t612 t613 t614 t617 t620 _ ?_ ?_ ?_ ?_ ?_ ?_ A19.out).mono ?_); exact Kd.C_w HR0_3 HB; exact HC0_3.out; exact Kd.C_w HR0_4 HB; exact HC0_4.out; exact Kd.C_w HR0_5 HB; exact HC0_5.out; rintro e w22 ⟨v615, v618, v621, rfl, ho0, ho1, ho2, hb⟩; refine ⟨_, rfl, ?_⟩; have HO616 := Kd.R_lo ho0 HB; have HO619 := Kd.R_lo ho1 HB; have HO622 := Kd.R_lo ho2 HB; replace BK607 := kb_ BK607 hb; replace BK608 := kb_ BK608 hb; replace HB := hbs_ HB hb; try clear BK607; try clear GW607; try clear GE607; try clear NB607_608; try clear NB608_607) | ((with_reducible refine gate_dst (N := 6) rfl ?_); (try (refine gate_guard (by rfl) ?_; dsimp only)); refine bv_ 6 (cs := #[.int .i64 0, .int .i64 0, .int .i64 0, .slice none 0 0, .slice none 0 0, .slice none 0 0]) (t := 28) ?_; intro gb623 hg w23 hbox hb; have BK623 := am_ (hbox); have GW623 := gs_ hg HB; have GE623 := gs_ hg HB; have NB608_623 := nl_ hg BK608; have NB623_608 := ng_ hg BK608; replace HO616 := Kd.R_b HO616 hb; replace HO619 := Kd.R_b HO619 hb; replace HO622 := Kd.R_b HO622 hb; replace BK608 := kb_ BK608 hb; replace HB := hbs_ HB hb; clear hb hbox hg; have := NB623_608.out; have := NB608_623.out; obtain ⟨hcz25_0, hcz25_1, hcz25_2, hcz25_3, hcz25_4, hcz25_5, hfz25_0, hfz25_1, hfz25_2, hfz25_3, hfz25_4, hfz25_5⟩ := bx6 BK623; obtain ⟨Ao26, co26, eo26⟩ := Kd.R_slice HO616.out; subst eo26; obtain ⟨Ao27, co27, eo27⟩ := Kd.R_slice HO619.out; subst eo27; obtain ⟨Ao28, co28, eo28⟩ := Kd.R_slice HO622.out; subst eo28))
 go_loopg [25] kj2 (fun kq v25 w' => ∃ (x25_2 : Int) (x624003_2 : List Int) (x624004_2 : List Int) (x624005_2 : List Int) (u624003 : Value) (u624004 : Value) (u624005 : Value), v25 = .int .i64 x25_2 ∧ Aside0 (impl_EmptyBlocks.l0 kq l1 (l1.length : Int) x25_2 t611 t612 t613 x624003_2 x624004_2 x624005_2 = some (r1, r2, r3, r4, r5, r6, r7)) ∧ Aside0 (kq ≤ kj2) ∧ Aside0 (Kd.R (Kd.int .i64) 3 w' w.heap.size (fun k_ => some k_ ≠ (u624004 : Value).ownBlock ∧ some k_ ≠ (u624005 : Value).ownBlock) u624003 x624003_2) ∧ Aside0 (Kd.R (Kd.int .i64) 3 w' w.heap.size (fun k_ => some k_ ≠ (u624003 : Value).ownBlock ∧ some k_ ≠ (u624005 : Value).ownBlock) u624004 x624004_2) ∧ Aside0 (Kd.R (Kd.int .i64) 3 w' w.heap.size (fun k_ => some k_ ≠ (u624003 : Value).ownBlock ∧ some k_ ≠ (u624004 : Value).ownBlock) u624005 x624005_2) ∧ Aside0 (w'.heap[gb608]? = some (.cells #[.int .i64 0, .int .i64 0, .int .i64 0, (.slice none 0 0), (.slice none 0 0), (.slice none 0 0)] 28 (0, 0))) ∧ Aside0 (w'.heap[gb623]? = some (.cells #[.int .i64 t611, .int .i64 t612, .int .i64 t613, u624003, u624004, u624005] 28 (0, 0))) ∧ Aside0 (Below w.heap.size w w'))
 case atStart => exact ⟨(0), (t614), (t617), (t620), (.slice Ao26 t614.length co26), (.slice Ao27 t617.length co27), (.slice Ao28 t620.length co28), sr_, H', ⟨Nat.le_refl _⟩, ⟨Kd.R_mono (Kd.R_s HO616 BK623) (fun _ hk => ⟨hk.1, hk.2⟩)⟩, ⟨Kd.R_mono (Kd.R_s HO619 BK623) (fun _ hk => ⟨hk.1, hk.2⟩)⟩, ⟨Kd.R_mono (Kd.R_s HO622 BK623) (fun _ hk => ⟨hk.1, hk.2⟩)⟩, ⟨kf_ BK608 NB608_623⟩, ⟨kpq_ (kputs BK623 [(0, _), (1, _), (2, _), (3, _), (4, _), (5, _)])⟩, ⟨hb_ HB⟩⟩
 clear H'
 obtain ⟨x25_2, x624003_2, x624004_2, x624005_2, u624003, u624004, u624005, rfl, HA, HK2, HO_624003, HO_624004, HO_624005, BK608, BK623, HB⟩ := hrel
 cases gk with
 | zero => exact absurd HA.out (by simp [impl_EmptyBlocks.l0])
 | succ k2 => ?_
 have H := HA.out
 clear HA
 simp only [impl_EmptyBlocks.l0] at H
 by_cases c29 : x25_2 < (l1.length : Int)
 ·rw [if_pos c29] at H
  have c29b0 := decide_eq_true c29
  clear c29
  revert H; refine pd_ fun c30b0 H => ?_
  revert H; refine pd_ fun c31b0 H => ?_
  revert H; refine pd_ fun c32b0 H => ?_
  revert H; refine pd_ fun c33b0 H => ?_
  obtain ⟨y625, hy625⟩ : ∃ y_ : List Int, y_ = (x624003_2.set ((rd l1 x25_2) : Int).toNat 0) := ⟨_, rfl⟩
  (try with_reducible replace H := (Option.bind_some _ _).symm.trans H); (try dsimp only at H); (try rw [← hy625] at H)
  have Ny625 := am_ hy625
  clear hy625
  have H' := am_ H
  clear H
  have p624 : 0 ≤ (x25_2 : Int) := od_
  have q624 : x25_2 < (l1.length : Int) := od_
  obtain ⟨ad624, e624, hx624_0⟩ := Kd.at_int HR1.out x25_2 p624 q624
  cases e624
  try replace hx624_0 := hc_ HB hx624_0
  replace p624 := eq_true p624
  replace q624 := eq_true q624
  have := NB623_608.out
  have := NB608_623.out
  obtain ⟨hcz36_0, hcz36_1, hcz36_2, hcz36_3, hcz36_4, hcz36_5, hfz36_0, hfz36_1, hfz36_2, hfz36_3, hfz36_4, hfz36_5⟩ := bx6 BK623
  have p34 : 0 ≤ ((rd l1 x25_2) : Int) := od_
  have q34 : ((rd l1 x25_2) : Int) < ((x624003_2.length : Int) : Int) := od_
  obtain ⟨go34, co34, eo34, gb34, gl34, cl34, HG34⟩ := Kd.R_form HO_624003.out (by omega)
  (first | cases eo34 | (injection eo34 with ea_ en_ ec_; (first | subst ea_ | (injection ea_ with ea_; subst ea_)); subst ec_; clear en_))
  have GB34 := am_ gb34
  have GG34 := am_ HG34
  clear gb34 gl34 HG34
  obtain ⟨hx34_0, hf34_0⟩ := Kd.R_celln 0 HO_624003.out ((rd l1 x25_2) : Int) p34 q34
  replace p34 := eq_true p34
  replace q34 := eq_true q34
  have HP37 := Kd.R_putg HO_624003.out ((rd l1 x25_2) : Int) 0
  go_wp2_with (first | ((with_reducible refine gate_store (t := 3) (p := 32) rfl ?_); refine store_event (t := 3) (p := 32) (v := ?vo_w38) (w1 := (wr.setCell ⟨go34, ((rd l1 x25_2) : Int).toNat, none⟩ (.int .i64 0))) ?hg ?ho ?hn ?hr ?_; (case ho => rfl); (case hg => rfl); (case hn => rfl); (case hr => first | (go_simp; done) | (go_simp; rfl)); intro w38 hw; have hg : wr.grownBy w38 (some go34) := (by rw [hw]; exact HP37.2); have hp_ : Kd.R (Kd.int .i64) 3 w38 w.heap.size (fun k_ => some k_ ≠ (u624004 : Value).ownBlock ∧ some k_ ≠ (u624005 : Value).ownBlock) (.slice (some ⟨go34, 0, none⟩) x624003_2.length co34) y625 := (by rw [hw, Ny625.out]; exact HP37.1); clear HP37; replace HO_624004 := am_ (Kd.R_after (v := (.slice (some ⟨go34, 0, none⟩) x624003_2.length co34)) (v1 := (.slice (some ⟨go34, 0, none⟩) x624003_2.length co34)) (ok := (fun k_ => some k_ ≠ (u624005 : Value).ownBlock)) (rm_ (h := HO_624004.out)) hg (.inl rfl)); replace HO_624005 := am_ (Kd.R_after (v := (.slice (some ⟨go34, 0, none⟩) x624003_2.length co34)) (v1 := (.slice (some ⟨go34, 0, none⟩) x624003_2.length co34)) (ok := (fun k_ => some k_ ≠ (u624004 : Value).ownBlock)) (rm_ (h := HO_624005.out)) hg (.inl rfl)); replace BK608 := am_ (blk_grown (kp_ BK608) hg (Kd.R_ne HO_624003.out BK608.out (by decide))); replace BK623 := am_ (blk_grown (kp_ BK623) hg (Kd.R_ne HO_624003.out BK623.out (by decide))); replace HB := am_ ((by rw [hw]; exact below_set (HB.out) GB34.out : Below w.heap.size w w38)); replace HO_624003 := am_ (hp_); clear hg hw hp_))
  go_roundg k2
  case measure => have := HJ2.out; have := HK2.out; omega
  case rel => exact ⟨(wrap64 (x25_2 + 1)), (y625), (x624004_2), (x624005_2), (.slice (some ⟨go34, 0, none⟩) x624003_2.length co34), (u624004), (u624005), sr_, H', ⟨by have := HJ2.out; have := HK2.out; omega⟩, ⟨Kd.R_p HO_624003⟩, ⟨rm_ (h := HO_624004.out)⟩, ⟨rm_ (h := HO_624005.out)⟩, ⟨kp_ BK608⟩, ⟨kp_ BK623⟩, ⟨hb_ HB⟩⟩
 rw [if_neg c29] at H
 have c29b0 := decide_eq_false c29
 clear c29
 simp only [Option.some.injEq, Prod.mk.injEq] at H
 obtain ⟨rfl, rfl, rfl, rfl, rfl, rfl, rfl⟩ := H
 have := NB623_608.out
 have := NB608_623.out
 obtain ⟨hcz40_0, hcz40_1, hcz40_2, hcz40_3, hcz40_4, hcz40_5, hfz40_0, hfz40_1, hfz40_2, hfz40_3, hfz40_4, hfz40_5⟩ := bx6 BK623
 obtain ⟨hcz41_0, hcz41_1, hcz41_2, hcz41_3, hcz41_4, hcz41_5, hfz41_0, hfz41_1, hfz41_2, hfz41_3, hfz41_4, hfz41_5⟩ := bx6 BK608
 obtain ⟨Ao42, co42, eo42⟩ := Kd.R_slice HO_624003.out
 subst eo42
 obtain ⟨Ao43, co43, eo43⟩ := Kd.R_slice HO_624004.out
 subst eo43
 obtain ⟨Ao44, co44, eo44⟩ := Kd.R_slice HO_624005.out
 subst eo44
 go_wp2
 refine bodyPost_ret (results_ct rfl _ _ gb608 28 #[.int .i64 t611, .int .i64 t612, .int .i64 t613, .slice Ao42 x624003_2.length co42, .slice Ao43 x624004_2.length co43, .slice Ao44 x624005_2.length co44] (0, 0) _ rfl (kpq_ (kputs BK608 [(0, _), (1, _), (2, _), (3, _), (4, _), (5, _)])) Tryz.underlying28 rfl (by kernel_rfl)) rfl ?_
 exact ⟨_, _, _, se_, Kd.R_mono (Kd.R_s HO_624003 BK608) (fun _ hk => ⟨hk.1, hk.2⟩), Kd.R_mono (Kd.R_s HO_624004 BK608) (fun _ hk => ⟨hk.1, hk.2⟩), Kd.R_mono (Kd.R_s HO_624005 BK608) (fun _ hk => ⟨hk.1, hk.2⟩), hb_ HB⟩

/-! ### spec_l1Rising: function 71 -/
def spec_l1Rising.l0 : Nat → List Int → Int → Int → List Int → Int → Int → Option (Bool)
 | 0, _, _, _, _, _, _ => none
 | k + 1, x0, x1, x2, x9, x10, x11 => if x11 < x10 then (if 0 ≤ x11 then (if x11 < (x9.length : Int) then ((spec_l1In.f (rd x9 x11) x1 x2).bind fun t627 => (if t627 = true then (if x11 > 0 then (if 0 ≤ (wrap64 (x11 - 1)) then (if (wrap64 (x11 - 1)) < (x0.length : Int) then (if (rd x0 (wrap64 (x11 - 1))) ≥ (rd x9 x11) then (some false) else (spec_l1Rising.l0 k x0 x1 x2 x9 x10 (wrap64 (x11 + 1)))) else (none)) else (none)) else (spec_l1Rising.l0 k x0 x1 x2 x9 x10 (wrap64 (x11 + 1)))) else (some false))) else (none)) else (none)) else (some true)
def spec_l1Rising.f (k : Nat) (l0 : List Int) (a1 : Int) (a2 : Int) : Option (Bool) := spec_l1Rising.l0 k l0 a1 a2 l0 (l0.length : Int) 0
theorem spec_l1Rising.calls (k : Nat) (A0 : Option Addr) (c0 : Nat) (l0 : List Int) (a1 : Int) (a2 : Int) (r : Bool) (w : World) (hr0 : Kd.C (Kd.int .i64) w A0 l0.length l0) (hc0 : l0.length ≤ c0) (h : spec_l1Rising.f k l0 a1 a2 = some r) :
  Calls Tryz.prog 71 #[.slice A0 l0.length c0, .int .i64 a1, .int .i64 a2] w fun e w' => e = .returned (.bool r) ∧ Drawn0 w w' := by
 have HR0 := am_ hr0
 have HC0 := am_ hc0
 clear hr0 hc0
 have H := h
 unfold spec_l1Rising.f at H
 clear h
 have H' := am_ H
 clear H
 go_enter Tryz.func71, Tryz.ntmps71
 go_wp2
 go_loopg [11] k (fun kq v11 w' => ∃ (x11_1 : Int), v11 = .int .i64 x11_1 ∧ Aside0 (spec_l1Rising.l0 kq l0 a1 a2 l0 (l0.length : Int) x11_1 = some r) ∧ Aside0 (kq ≤ k) ∧ Drawn0 w w')
 case atStart => exact ⟨(0), sr_, H', ⟨Nat.le_refl _⟩, by repeat (first | exact Drawn0.refl _ | apply Drawn0.step)⟩
 clear H'
 obtain ⟨x11_1, rfl, HA, HK1, ⟨m1, rfl⟩⟩ := hrel
 cases gk with
 | zero => exact absurd HA.out (by simp [spec_l1Rising.l0])
 | succ k1 => ?_
 have H := HA.out
 clear HA
 simp only [spec_l1Rising.l0] at H
 by_cases c4 : x11_1 < (l0.length : Int)
 case neg => rw [if_neg c4] at H; have c4b0 := decide_eq_false c4; clear c4; obtain rfl := Option.some.inj H; go_wp2; go_ret; (exact ⟨by first | rfl | (simp; done) | (simp [*]; done), by repeat (first | exact Drawn0.refl _ | apply Drawn0.step)⟩)
 rw [if_pos c4] at H
 have c4b0 := decide_eq_true c4
 clear c4
 revert H; refine pd_ fun c5b0 H => ?_
 revert H; refine pd_ fun c6b0 H => ?_
 revert H; refine bn_ ?_; rintro t627 A7 H; try dsimp only at H
 by_cases c8 : t627 = true
 ·subst c8
  rw [if_pos rfl] at H
  by_cases c9 : x11_1 > 0
  ·rw [if_pos c9] at H
   have c9b0 : decide (0 < x11_1) = true := decide_eq_true c9
   clear c9
   obtain ⟨ji10, hji10⟩ : ∃ j_ : Int, (wrap64 (x11_1 - 1)) = j_ := ⟨_, rfl⟩
   first | rw [hji10] at H | simp only [hji10] at H
   (try rw [hji10] at A7)
   have hji10w : (IntKind.i64.wrap (x11_1 - 1)) = ji10 := (i64_w _).trans hji10
   revert H; refine pd_ fun c11b0 H => ?_
   revert H; refine pd_ fun c12b0 H => ?_
   by_cases c13 : (rd l0 (ji10)) ≥ (rd l0 x11_1)
   ·rw [if_pos c13] at H
    have c13b0 : decide ((rd l0 x11_1) ≤ (rd l0 (ji10))) = true := decide_eq_true c13
    clear c13
    obtain rfl := Option.some.inj H
    obtain ⟨ad626, e626, hx626_0, p626, q626⟩ := ai_ HR0.out x11_1
    cases e626
    go_wp2_with (first | ((with_reducible refine gk_ 69 ?_); refine gq_ 19 Tryz.func69 #[.int .i64 (rd l0 x11_1), .int .i64 a1, .int .i64 a2] ?_; (with_reducible refine (spec_l1In.calls (rd l0 x11_1) a1 a2 true _ A7.out).mono ?_); rintro e w' ⟨rfl, ⟨nd, rfl⟩⟩; refine ⟨_, rfl, ?_⟩; have p628 : 0 ≤ ((ji10) : Int) := od_; have q628 : (ji10) < (l0.length : Int) := od_; obtain ⟨ad628, e628, hx628_0⟩ := Kd.at_int HR0.out (ji10) p628 q628; obtain rfl : ad626 = ad628 := (by injection e628); replace p628 := eq_true p628; replace q628 := eq_true q628))
    go_ret
    exact ⟨by first | rfl | (simp; done) | (simp only [← hji10] <;> (first | rfl | simp)) | (simp [*]; done), by repeat (first | exact Drawn0.refl _ | apply Drawn0.step)⟩
   rw [if_neg c13] at H
   have c13b0 : decide ((rd l0 x11_1) ≤ (rd l0 (ji10))) = false := decide_eq_false c13
   clear c13
   have H' := am_ H
   clear H
   obtain ⟨ad626, e626, hx626_0, p626, q626⟩ := ai_ HR0.out x11_1
   cases e626
   go_wp2_with (first | ((with_reducible refine gk_ 69 ?_); refine gq_ 19 Tryz.func69 #[.int .i64 (rd l0 x11_1), .int .i64 a1, .int .i64 a2] ?_; (with_reducible refine (spec_l1In.calls (rd l0 x11_1) a1 a2 true _ A7.out).mono ?_); rintro e w' ⟨rfl, ⟨nd, rfl⟩⟩; refine ⟨_, rfl, ?_⟩; have p628 : 0 ≤ ((ji10) : Int) := od_; have q628 : (ji10) < (l0.length : Int) := od_; obtain ⟨ad628, e628, hx628_0⟩ := Kd.at_int HR0.out (ji10) p628 q628; obtain rfl : ad626 = ad628 := (by injection e628); replace p628 := eq_true p628; replace q628 := eq_true q628))
   go_roundg k1
   case measure => have := HK1.out; omega
   case rel => exact ⟨(wrap64 (x11_1 + 1)), sr_, H', ⟨by have := HK1.out; omega⟩, by repeat (first | exact Drawn0.refl _ | apply Drawn0.step)⟩
  rw [if_neg c9] at H
  have c9b0 : decide (0 < x11_1) = false := decide_eq_false c9
  clear c9
  have H' := am_ H
  clear H
  obtain ⟨ad626, e626, hx626_0, p626, q626⟩ := ai_ HR0.out x11_1
  cases e626
  go_wp2_with (first | ((with_reducible refine gk_ 69 ?_); refine gq_ 19 Tryz.func69 #[.int .i64 (rd l0 x11_1), .int .i64 a1, .int .i64 a2] ?_; (with_reducible refine (spec_l1In.calls (rd l0 x11_1) a1 a2 true _ A7.out).mono ?_); rintro e w' ⟨rfl, ⟨nd, rfl⟩⟩; refine ⟨_, rfl, ?_⟩))
  go_roundg k1
  case measure => have := HK1.out; omega
  case rel => exact ⟨(wrap64 (x11_1 + 1)), sr_, H', ⟨by have := HK1.out; omega⟩, by repeat (first | exact Drawn0.refl _ | apply Drawn0.step)⟩
 replace c8 := Bool.eq_false_iff.mpr c8
 subst c8
 rw [if_neg (show ¬ (false = true) by decide)] at H
 obtain rfl := Option.some.inj H
 obtain ⟨ad626, e626, hx626_0, p626, q626⟩ := ai_ HR0.out x11_1
 cases e626
 go_wp2_with (first | ((with_reducible refine gk_ 69 ?_); refine gq_ 19 Tryz.func69 #[.int .i64 (rd l0 x11_1), .int .i64 a1, .int .i64 a2] ?_; (with_reducible refine (spec_l1In.calls (rd l0 x11_1) a1 a2 false _ A7.out).mono ?_); rintro e w' ⟨rfl, ⟨nd, rfl⟩⟩; refine ⟨_, rfl, ?_⟩))
 go_ret
 exact ⟨by first | rfl | (simp; done) | (simp [*]; done), by repeat (first | exact Drawn0.refl _ | apply Drawn0.step)⟩

/-! ### spec_moList: function 48 -/
def spec_moList.f (k : Nat) (a0_0 : Int) (a0_1 : Int) (a0_2 : Int) (l0_3 : List Int) (l0_4 : List Int) (l0_5 : List Int) (l1 : List Int) : Option (Bool) := (spec_moGood.f k a0_0 a0_1 a0_2 l0_3 l0_4 l0_5).bind fun t630 => (if t630 = true then ((spec_grCount.f a0_0 a0_1 a0_2).bind fun t631 => ((spec_l1Rising.f k l1 0 (wrap64 (t631 - 1))).bind fun t632 => (some t632))) else (some false))
theorem spec_moList.calls (k : Nat) (a0_0 : Int) (a0_1 : Int) (a0_2 : Int) (A0_3 : Option Addr) (c0_3 : Nat) (l0_3 : List Int) (A0_4 : Option Addr) (c0_4 : Nat) (l0_4 : List Int) (A0_5 : Option Addr) (c0_5 : Nat) (l0_5 : List Int) (A1 : Option Addr) (c1 : Nat) (l1 : List Int) (r : Bool) (w : World) (hr0_3 : Kd.C (Kd.int .i64) w A0_3 l0_3.length l0_3) (hc0_3 : l0_3.length ≤ c0_3) (hr0_4 : Kd.C (Kd.int .i64) w A0_4 l0_4.length l0_4) (hc0_4 : l0_4.length ≤ c0_4) (hr0_5 : Kd.C (Kd.int .i64) w A0_5 l0_5.length l0_5) (hc0_5 : l0_5.length ≤ c0_5) (hr1 : Kd.C (Kd.int .i64) w A1 l1.length l1) (hc1 : l1.length ≤ c1) (h : spec_moList.f k a0_0 a0_1 a0_2 l0_3 l0_4 l0_5 l1 = some r) :
  Calls Tryz.prog 48 #[.agg #[.int .i64 a0_0, .int .i64 a0_1, .int .i64 a0_2, .slice A0_3 l0_3.length c0_3, .slice A0_4 l0_4.length c0_4, .slice A0_5 l0_5.length c0_5], .slice A1 l1.length c1] w fun e w' => e = .returned (.bool r) ∧ Below w.heap.size w w' := by
 have hu28 := Tryz.underlying28
 have hu25 := Tryz.underlying25
 have HR0_3 := am_ hr0_3
 have HC0_3 := am_ hc0_3
 clear hr0_3 hc0_3
 have HR0_4 := am_ hr0_4
 have HC0_4 := am_ hc0_4
 clear hr0_4 hc0_4
 have HR0_5 := am_ hr0_5
 have HC0_5 := am_ hc0_5
 clear hr0_5 hc0_5
 have HR1 := am_ hr1
 have HC1 := am_ hc1
 clear hr1 hc1
 have HB := am_ (Below.refl w.heap.size w)
 have H := h
 unfold spec_moList.f at H
 clear h
 revert H; refine bn_ ?_; rintro t630 A3 H; try dsimp only at H
 by_cases c4 : t630 = true
 ·subst c4
  rw [if_pos rfl] at H
  revert H; refine bn_ ?_; rintro t631 A5 H; try dsimp only at H
  revert H; refine bn_ ?_; rintro t632 A6 H; try dsimp only at H
  obtain rfl := Option.some.inj H
  go_enter Tryz.func48, Tryz.ntmps48
  go_wp2_with (first | ((with_reducible refine gate_dst (N := 2) rfl ?_); refine bv_ 2 (cs := #[.int .i64 a0_0, .int .i64 a0_1, .int .i64 a0_2, .slice A0_3 l0_3.length c0_3, .slice A0_4 l0_4.length c0_4, .slice A0_5 l0_5.length c0_5]) (t := 28) ?_; intro gb629 hg w7 hbox hb; have BK629 := am_ (hbox); have GW629 := gs_ hg HB; have GE629 := gs_ hg HB; replace HB := hbs_ HB hb; clear hb hbox hg; obtain ⟨hcz8_0, hcz8_1, hcz8_2, hcz8_3, hcz8_4, hcz8_5, hfz8_0, hfz8_1, hfz8_2, hfz8_3, hfz8_4, hfz8_5⟩ := bx6 BK629) | ((with_reducible refine gk_ 31 ?_); refine gq_ 6 Tryz.func31 #[.agg #[.int .i64 a0_0, .int .i64 a0_1, .int .i64 a0_2, .slice A0_3 l0_3.length c0_3, .slice A0_4 l0_4.length c0_4, .slice A0_5 l0_5.length c0_5]] ?_; (with_reducible refine (spec_moGood.calls k a0_0 a0_1 a0_2 _ _ l0_3 _ _ l0_4 _ _ l0_5 true _ ?_ ?_ ?_ ?_ ?_ ?_ A3.out).mono ?_); exact Kd.C_w HR0_3 HB; exact HC0_3.out; exact Kd.C_w HR0_4 HB; exact HC0_4.out; exact Kd.C_w HR0_5 HB; exact HC0_5.out; rintro e w9 ⟨rfl, hb⟩; refine ⟨_, rfl, ?_⟩; replace BK629 := kb_ BK629 hb; replace HB := hbs_ HB hb; obtain ⟨hcz10_0, hcz10_1, hcz10_2, hcz10_3, hcz10_4, hcz10_5, hfz10_0, hfz10_1, hfz10_2, hfz10_3, hfz10_4, hfz10_5⟩ := bx6 BK629) | (go_at_call 59; (with_reducible refine (spec_grCount.calls a0_0 a0_1 a0_2 t631 _ A5.out).mono ?_); rintro e w11 ⟨rfl, hb⟩; replace BK629 := am_ (blk_below (kp_ BK629) hb); replace HB := am_ (below_step (hb_ HB) hb); try clear BK629; try clear GW629; try clear GE629) | (go_at_call 71; (with_reducible refine (spec_l1Rising.calls k _ _ l1 0 (wrap64 (t631 - 1)) t632 _ ?_ ?_ A6.out).mono ?_); exact Kd.C_w HR1 HB; exact HC1.out; rintro e w' ⟨rfl, ⟨nd, rfl⟩⟩))
  go_ret
  exact ad_ (hb_ HB)
 replace c4 := Bool.eq_false_iff.mpr c4
 subst c4
 rw [if_neg (show ¬ (false = true) by decide)] at H
 obtain rfl := Option.some.inj H
 go_enter Tryz.func48, Tryz.ntmps48
 go_wp2_with (first | ((with_reducible refine gate_dst (N := 2) rfl ?_); refine bv_ 2 (cs := #[.int .i64 a0_0, .int .i64 a0_1, .int .i64 a0_2, .slice A0_3 l0_3.length c0_3, .slice A0_4 l0_4.length c0_4, .slice A0_5 l0_5.length c0_5]) (t := 28) ?_; intro gb629 hg w12 hbox hb; have BK629 := am_ (hbox); have GW629 := gs_ hg HB; have GE629 := gs_ hg HB; replace HB := hbs_ HB hb; clear hb hbox hg; obtain ⟨hcz13_0, hcz13_1, hcz13_2, hcz13_3, hcz13_4, hcz13_5, hfz13_0, hfz13_1, hfz13_2, hfz13_3, hfz13_4, hfz13_5⟩ := bx6 BK629) | ((with_reducible refine gk_ 31 ?_); refine gq_ 6 Tryz.func31 #[.agg #[.int .i64 a0_0, .int .i64 a0_1, .int .i64 a0_2, .slice A0_3 l0_3.length c0_3, .slice A0_4 l0_4.length c0_4, .slice A0_5 l0_5.length c0_5]] ?_; (with_reducible refine (spec_moGood.calls k a0_0 a0_1 a0_2 _ _ l0_3 _ _ l0_4 _ _ l0_5 false _ ?_ ?_ ?_ ?_ ?_ ?_ A3.out).mono ?_); exact Kd.C_w HR0_3 HB; exact HC0_3.out; exact Kd.C_w HR0_4 HB; exact HC0_4.out; exact Kd.C_w HR0_5 HB; exact HC0_5.out; rintro e w14 ⟨rfl, hb⟩; refine ⟨_, rfl, ?_⟩; replace BK629 := kb_ BK629 hb; replace HB := hbs_ HB hb))
 go_ret
 exact ad_ (hb_ HB)

/-! ### spec_l1Own: function 72 -/
def spec_l1Own.f (l0 : List Int) : Option (List Int) := (some (([] : List Int) : List Int)).bind fun y633 => (if y633.length + l0.length < 17592186044416 then (some (y633 ++ l0)) else (none))
theorem spec_l1Own.calls (A0 : Option Addr) (c0 : Nat) (l0 : List Int) (r : List Int) (w : World) (hr0 : Kd.C (Kd.int .i64) w A0 l0.length l0) (hc0 : l0.length ≤ c0) (h : spec_l1Own.f l0 = some r) :
  Calls Tryz.prog 72 #[.slice A0 l0.length c0] w fun e w' => ∃ v0_ : Value, e = .returned (v0_) ∧ Kd.R (Kd.int .i64) 3 w' w.heap.size (fun _ => True) v0_ r ∧ Below w.heap.size w w' := by
 have HR0 := am_ hr0
 have HC0 := am_ hc0
 clear hr0 hc0
 have HB := am_ (Below.refl w.heap.size w)
 have H := h
 unfold spec_l1Own.f at H
 clear h
 obtain ⟨y633, hy633⟩ : ∃ y_ : List Int, y_ = (([] : List Int)) := ⟨_, rfl⟩
 replace H : (if y633.length + l0.length < 17592186044416 then (some (y633 ++ l0)) else (none)) = some r := by first | (rw [hy633]; with_reducible exact H) | (have H2_ := (Option.bind_some _ _).symm.trans H; rw [hy633]; with_reducible exact H2_) | (have H2_ := (Option.bind_some _ _).symm.trans H; with_reducible exact H2_) | with_reducible exact H | (rw [hy633]; exact H) | exact H
 have Ny633 := am_ hy633
 clear hy633
 revert H; refine pf_ fun c2 H => ?_
 have LMc2 := am_ c2
 clear c2
 obtain ⟨y636, hy636⟩ : ∃ y_ : List Int, y_ = (y633 ++ l0) := ⟨_, rfl⟩
 (try with_reducible replace H := (Option.bind_some _ _).symm.trans H); (try dsimp only at H); (try rw [← hy636] at H)
 have Ny636 := am_ hy636
 clear hy636
 obtain rfl := Option.some.inj H
 go_enter Tryz.func72, Tryz.ntmps72
 go_wp2_with (first | ((with_reducible refine gate_dst (N := 3) rfl ?_); refine Kd.R_lit (Kd.int .i64) _ 3 ?hg (N := 3) ?hd (xs := ([] : List Int)) (inner := []) (ok := fun _ => True) (okp := fun _ => True) ?hr ?hp (fun _ hk => hk) trivial (Below.refl _ _) (Nat.le_refl _) (by simp) ?_; (case hd => rfl); (case hg => rfl); (case hr => first | (go_simp; done) | (go_simp; rfl)); (case hp => exact (Reps.none _ _)); intro v634 w3 ho4 hb hg_ hnew_; clear hg_ hnew_; (first | rw [← Ny633.out] at ho4 | (simp only [Int.reduceToNat] at ho4; rw [← Ny633.out] at ho4)); have HO635 := Kd.R_lo ho4 HB; replace HB := hbs_ HB hb; clear hb ho4) | ((with_reducible refine gate_builtin (b := .append) (xs := #[.tmp 3, .tmp 4]) rfl ?_); at_builtin; refine Kd.R_append_rows (Kd.int .i64) (w0 := w) w.heap.size rfl (.tmp 3) (.tmp 4) 26 3 (.int .i64 0) 8 rfl Tryz.underlying26 info3 rfl (by decide) (by omega) v634 y633 l0 _ _ _ (fun _ => True) (fun _ => False) rfl rfl ?aO ?aR (fun _ _ h => h) (fun _ h => h.elim) ?aF ?aB ?aS ?aL ?_; (case aR => exact Kd.C_w HR0 HB); (case aB => exact (hb_ HB)); (case aF => exact (fun _ _ => trivial)); (case aO => exact (Kd.R_p HO635)); (case aS => exact (below_size (hb_ HB))); (case aL => have := LMc2.out; omega); intro v637 w5 ho hb hg hat; rw [← Ny636.out] at ho; have HO638 := am_ (ho); replace HB := am_ (hb); clear HO635; clear ho hb hg hat))
 go_ret
 exact ⟨_, se_, Kd.R_p HO638, hb_ HB⟩

end Go.Proofs.YthphbkkkbolcnaaGreatDoor.PFnModels
