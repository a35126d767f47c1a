-- Laid for this claim by wip/tools/print2.sh, a changed copy of the kit's print (wip/tools/patch_print.py): not by print.sh.
import Derived.Test.YthphbkkkbolcnaaGreatDoorPFnModelsx12
import Derived.Test.YthphbkkkbolcnaaGreatDoorVFnModels
namespace Go.Proofs.YthphbkkkbolcnaaGreatDoor.PFnModels
set_option maxHeartbeats 8000000
set_option maxRecDepth 100000
open Go.RowKit Go.Proofs.YthphbkkkbolcnaaGreatDoorW.PrintWords Go.Proofs.YthphbkkkbolcnaaGreatDoorW.PrintLast Go.Proofs.YthphbkkkbolcnaaGreatDoorW.PrintMore
set_option linter.unusedVariables false
set_option linter.unusedSimpArgs false

/-! ### spec_moSums: function 43 -/
def spec_moSums.l0 : Nat → Int → Int → List Int → Int → Int → Int → Int → Int → List Int → List Int → List Int → Option (Int × Int)
 | 0, _, _, _, _, _, _, _, _, _, _, _ => none
 | k + 1, x6, x7, x10, x11, x12, x466000, x466001, x466002, x466003, x466004, x466005 => if x12 < x11 then (if 0 ≤ x12 then (if x12 < (x10.length : Int) then (if 0 ≤ (rd x10 x12) then (if (rd x10 x12) < (x466003.length : Int) then ((spec_moMetal.f x466000 x466001 x466002 x466003 x466004 x466005 (rd x10 x12)).bind fun t468 => (spec_moSums.l0 k (wrap64 (x6 + (rd x466003 (rd x10 x12)))) (wrap64 (x7 + t468)) x10 x11 (wrap64 (x12 + 1)) x466000 x466001 x466002 x466003 x466004 x466005)) else (none)) else (none)) else (none)) else (none)) else (some (x6, x7))
def spec_moSums.f (k : Nat) (a0_0 : Int) (a0_1 : Int) (a0_2 : Int) (l0_3 : List Int) (l0_4 : List Int) (l0_5 : List Int) (l1 : List Int) : Option (Int × Int) := spec_moSums.l0 k 0 0 l1 (l1.length : Int) 0 a0_0 a0_1 a0_2 l0_3 l0_4 l0_5
theorem spec_moSums.calls (k : Nat) (a0_0 : Int) (a0_1 : Int) (a0_2 : Int) (A0_3 : Option Addr) (c0_3 : Nat) (l0_3 : List Int) (A0_4 : Option Addr) (c0_4 : Nat) (l0_4 : List Int) (A0_5 : Option Addr) (c0_5 : Nat) (l0_5 : List Int) (A1 : Option Addr) (c1 : Nat) (l1 : List Int) (r1 : Int) (r2 : Int) (w : World) (hr0_3 : Kd.C (Kd.int .i64) w A0_3 l0_3.length l0_3) (hc0_3 : l0_3.length ≤ c0_3) (hr0_4 : Kd.C (Kd.int .i64) w A0_4 l0_4.length l0_4) (hc0_4 : l0_4.length ≤ c0_4) (hr0_5 : Kd.C (Kd.int .i64) w A0_5 l0_5.length l0_5) (hc0_5 : l0_5.length ≤ c0_5) (hr1 : Kd.C (Kd.int .i64) w A1 l1.length l1) (hc1 : l1.length ≤ c1) (h : spec_moSums.f k a0_0 a0_1 a0_2 l0_3 l0_4 l0_5 l1 = some (r1, r2)) :
  Calls Tryz.prog 43 #[.agg #[.int .i64 a0_0, .int .i64 a0_1, .int .i64 a0_2, .slice A0_3 l0_3.length c0_3, .slice A0_4 l0_4.length c0_4, .slice A0_5 l0_5.length c0_5], .slice A1 l1.length c1] w fun e w' => e = .returned (.tuple #[.int .i64 r1, .int .i64 r2]) ∧ Below w.heap.size w w' := by
 have hu28 := Tryz.underlying28
 have HR0_3 := am_ hr0_3
 have HC0_3 := am_ hc0_3
 clear hr0_3 hc0_3
 have HR0_4 := am_ hr0_4
 have HC0_4 := am_ hc0_4
 clear hr0_4 hc0_4
 have HR0_5 := am_ hr0_5
 have HC0_5 := am_ hc0_5
 clear hr0_5 hc0_5
 have HR1 := am_ hr1
 have HC1 := am_ hc1
 clear hr1 hc1
 have HB := am_ (Below.refl w.heap.size w)
 have H := h
 unfold spec_moSums.f at H
 clear h
 have H' := am_ H
 clear H
 go_enter Tryz.func43, Tryz.ntmps43
 go_wp2_with (first | ((with_reducible refine gate_dst (N := 2) rfl ?_); refine bv_ 2 (cs := #[.int .i64 a0_0, .int .i64 a0_1, .int .i64 a0_2, .slice A0_3 l0_3.length c0_3, .slice A0_4 l0_4.length c0_4, .slice A0_5 l0_5.length c0_5]) (t := 28) ?_; intro gb465 hg w3 hbox hb; have BK465 := am_ (hbox); have GW465 := gs_ hg HB; have GE465 := gs_ hg HB; replace HB := hbs_ HB hb; clear hb hbox hg))
 go_loopg [6, 7, 12] k (fun kq v6 v7 v12 w' => ∃ (x6_1 : Int) (x7_1 : Int) (x12_1 : Int), v6 = .int .i64 x6_1 ∧ v7 = .int .i64 x7_1 ∧ v12 = .int .i64 x12_1 ∧ Aside0 (spec_moSums.l0 kq x6_1 x7_1 l1 (l1.length : Int) x12_1 a0_0 a0_1 a0_2 l0_3 l0_4 l0_5 = some (r1, r2)) ∧ Aside0 (kq ≤ k) ∧ Aside0 (w'.heap[gb465]? = some (.cells #[.int .i64 a0_0, .int .i64 a0_1, .int .i64 a0_2, (.slice A0_3 l0_3.length c0_3), (.slice A0_4 l0_4.length c0_4), (.slice A0_5 l0_5.length c0_5)] 28 (0, 0))) ∧ Aside0 (Below w.heap.size w w'))
 case atStart => exact ⟨(0), (0), (0), sr_, sr_, sr_, H', ⟨Nat.le_refl _⟩, ⟨kp_ BK465⟩, ⟨hb_ HB⟩⟩
 clear H'
 obtain ⟨x6_1, x7_1, x12_1, rfl, rfl, rfl, HA, HK1, BK465, HB⟩ := hrel
 cases gk with
 | zero => exact absurd HA.out (by simp [spec_moSums.l0])
 | succ k1 => ?_
 have H := HA.out
 clear HA
 simp only [spec_moSums.l0] at H
 by_cases c4 : x12_1 < (l1.length : Int)
 case neg => rw [if_neg c4] at H; have c4b0 := decide_eq_false c4; clear c4; simp only [Option.some.injEq, Prod.mk.injEq] at H; obtain ⟨rfl, rfl⟩ := H; go_wp2; go_ret2; exact ad_ (hb_ HB)
 rw [if_pos c4] at H
 have c4b0 := decide_eq_true c4
 clear c4
 revert H; refine pd_ fun c5b0 H => ?_
 revert H; refine pd_ fun c6b0 H => ?_
 revert H; refine pd_ fun c7b0 H => ?_
 revert H; refine pd_ fun c8b0 H => ?_
 revert H; refine bn_ ?_; rintro t468 A9 H; try dsimp only at H
 have H' := am_ H
 clear H
 have p466 : 0 ≤ (x12_1 : Int) := od_
 have q466 : x12_1 < (l1.length : Int) := od_
 obtain ⟨ad466, e466, hx466_0⟩ := Kd.at_int HR1.out x12_1 p466 q466
 cases e466
 try replace hx466_0 := hc_ HB hx466_0
 replace p466 := eq_true p466
 replace q466 := eq_true q466
 obtain ⟨hcz10_0, hcz10_1, hcz10_2, hcz10_3, hcz10_4, hcz10_5, hfz10_0, hfz10_1, hfz10_2, hfz10_3, hfz10_4, hfz10_5⟩ := bx6 BK465
 have p467 : 0 ≤ ((rd l1 x12_1) : Int) := od_
 have q467 : (rd l1 x12_1) < (l0_3.length : Int) := od_
 obtain ⟨ad467, e467, hx467_0⟩ := Kd.at_int HR0_3.out (rd l1 x12_1) p467 q467
 cases e467
 try replace hx467_0 := hc_ HB hx467_0
 replace p467 := eq_true p467
 replace q467 := eq_true q467
 go_wp2_with (first | ((with_reducible refine gk_ 44 ?_); refine gq_ 26 Tryz.func44 #[.agg #[.int .i64 a0_0, .int .i64 a0_1, .int .i64 a0_2, .slice (some ad467) l0_3.length c0_3, .slice A0_4 l0_4.length c0_4, .slice A0_5 l0_5.length c0_5], .int .i64 (rd l1 x12_1)] ?_; (with_reducible refine (spec_moMetal.calls a0_0 a0_1 a0_2 _ _ l0_3 _ _ l0_4 _ _ l0_5 (rd l1 x12_1) t468 _ ?_ ?_ ?_ ?_ ?_ ?_ A9.out).mono ?_); exact Kd.C_w HR0_3 HB; exact HC0_3.out; exact Kd.C_w HR0_4 HB; exact HC0_4.out; exact Kd.C_w HR0_5 HB; exact HC0_5.out; rintro e w11 ⟨rfl, hb⟩; refine ⟨_, rfl, ?_⟩; replace BK465 := kb_ BK465 hb; replace HB := hbs_ HB hb))
 go_roundg k1
 case measure => have := HK1.out; omega
 case rel => exact ⟨(wrap64 (x6_1 + (rd l0_3 (rd l1 x12_1)))), (wrap64 (x7_1 + t468)), (wrap64 (x12_1 + 1)), sr_, sr_, sr_, H', ⟨by have := HK1.out; omega⟩, ⟨kp_ BK465⟩, ⟨hb_ HB⟩⟩

/-! ### spec_LevelSums: function 11 -/
def spec_LevelSums.l0 : Nat → List (List Int) → Int → Int → Int → Int → List Int → List Int → List Int → Option ((List (List Int)) × Bool)
 | 0, _, _, _, _, _, _, _, _ => none
 | k + 1, x4, x5, x470000, x470001, x470002, x470003, x470004, x470005 => if x5 < x470002 then ((spec_LevelBlocks.f k x470000 x470001 x470002 x5).bind fun bt471 => ((spec_moSums.f k x470000 x470001 x470002 x470003 x470004 x470005 bt471.1).bind fun bt475 => (if x4.length < 5864062014805 then (spec_LevelSums.l0 k (x4 ++ [(([bt475.1, bt475.2] : List Int))]) (wrap64 (x5 + 1)) x470000 x470001 x470002 x470003 x470004 x470005) else (none)))) else (some (x4, true))
def spec_LevelSums.f (k : Nat) (a0_0 : Int) (a0_1 : Int) (a0_2 : Int) (l0_3 : List Int) (l0_4 : List Int) (l0_5 : List Int) : Option ((List (List Int)) × Bool) := (spec_moGood.f k a0_0 a0_1 a0_2 l0_3 l0_4 l0_5).bind fun t470 => (if t470 = true then (spec_LevelSums.l0 k ([] : List (List Int)) 0 a0_0 a0_1 a0_2 l0_3 l0_4 l0_5) else (some (([] : List (List Int)), false)))
theorem spec_LevelSums.calls (k : Nat) (a0_0 : Int) (a0_1 : Int) (a0_2 : Int) (A0_3 : Option Addr) (c0_3 : Nat) (l0_3 : List Int) (A0_4 : Option Addr) (c0_4 : Nat) (l0_4 : List Int) (A0_5 : Option Addr) (c0_5 : Nat) (l0_5 : List Int) (r1 : List (List Int)) (r2 : Bool) (w : World) (hr0_3 : Kd.C (Kd.int .i64) w A0_3 l0_3.length l0_3) (hc0_3 : l0_3.length ≤ c0_3) (hr0_4 : Kd.C (Kd.int .i64) w A0_4 l0_4.length l0_4) (hc0_4 : l0_4.length ≤ c0_4) (hr0_5 : Kd.C (Kd.int .i64) w A0_5 l0_5.length l0_5) (hc0_5 : l0_5.length ≤ c0_5) (h : spec_LevelSums.f k a0_0 a0_1 a0_2 l0_3 l0_4 l0_5 = some (r1, r2)) :
  Calls Tryz.prog 11 #[.agg #[.int .i64 a0_0, .int .i64 a0_1, .int .i64 a0_2, .slice A0_3 l0_3.length c0_3, .slice A0_4 l0_4.length c0_4, .slice A0_5 l0_5.length c0_5]] w fun e w' => ∃ v0_ : Value, e = .returned (.tuple #[v0_, .bool r2]) ∧ Kd.S (Kd.slice 3 (Kd.int .i64)) 26 w' w.heap.size (fun _ => True) v0_ r1 ∧ Below w.heap.size w w' := by
 have hu28 := Tryz.underlying28
 have hu25 := Tryz.underlying25
 have HR0_3 := am_ hr0_3
 have HC0_3 := am_ hc0_3
 clear hr0_3 hc0_3
 have HR0_4 := am_ hr0_4
 have HC0_4 := am_ hc0_4
 clear hr0_4 hc0_4
 have HR0_5 := am_ hr0_5
 have HC0_5 := am_ hc0_5
 clear hr0_5 hc0_5
 have HB := am_ (Below.refl w.heap.size w)
 have H := h
 unfold spec_LevelSums.f at H
 clear h
 revert H; refine bn_ ?_; rintro t470 A2 H; try dsimp only at H
 by_cases c3 : t470 = true
 ·subst c3
  rw [if_pos rfl] at H
  have H' := am_ H
  clear H
  go_enter Tryz.func11, Tryz.ntmps11
  go_wp2_with (first | ((with_reducible refine gate_dst (N := 1) rfl ?_); refine bv_ 1 (cs := #[.int .i64 a0_0, .int .i64 a0_1, .int .i64 a0_2, .slice A0_3 l0_3.length c0_3, .slice A0_4 l0_4.length c0_4, .slice A0_5 l0_5.length c0_5]) (t := 28) ?_; intro gb469 hg w4 hbox hb; have BK469 := am_ (hbox); have GW469 := gs_ hg HB; have GE469 := gs_ hg HB; replace HB := hbs_ HB hb; clear hb hbox hg; obtain ⟨hcz5_0, hcz5_1, hcz5_2, hcz5_3, hcz5_4, hcz5_5, hfz5_0, hfz5_1, hfz5_2, hfz5_3, hfz5_4, hfz5_5⟩ := bx6 BK469) | ((with_reducible refine gk_ 31 ?_); refine gq_ 11 Tryz.func31 #[.agg #[.int .i64 a0_0, .int .i64 a0_1, .int .i64 a0_2, .slice A0_3 l0_3.length c0_3, .slice A0_4 l0_4.length c0_4, .slice A0_5 l0_5.length c0_5]] ?_; (with_reducible refine (spec_moGood.calls k a0_0 a0_1 a0_2 _ _ l0_3 _ _ l0_4 _ _ l0_5 true _ ?_ ?_ ?_ ?_ ?_ ?_ A2.out).mono ?_); exact Kd.C_w HR0_3 HB; exact HC0_3.out; exact Kd.C_w HR0_4 HB; exact HC0_4.out; exact Kd.C_w HR0_5 HB; exact HC0_5.out; rintro e w6 ⟨rfl, hb⟩; refine ⟨_, rfl, ?_⟩; replace BK469 := kb_ BK469 hb; replace HB := hbs_ HB hb))
  go_loopg [4, 5] k (fun kq v4 v5 w' => ∃ (x4_1 : List (List Int)) (x5_1 : Int), v5 = .int .i64 x5_1 ∧ Aside0 (spec_LevelSums.l0 kq x4_1 x5_1 a0_0 a0_1 a0_2 l0_3 l0_4 l0_5 = some (r1, r2)) ∧ Aside0 (kq ≤ k) ∧ Aside0 (Kd.S (Kd.slice 3 (Kd.int .i64)) 26 w' w.heap.size (fun _ => True) v4 x4_1) ∧ Aside0 (w'.heap[gb469]? = some (.cells #[.int .i64 a0_0, .int .i64 a0_1, .int .i64 a0_2, (.slice A0_3 l0_3.length c0_3), (.slice A0_4 l0_4.length c0_4), (.slice A0_5 l0_5.length c0_5)] 28 (0, 0))) ∧ Aside0 (Below w.heap.size w w'))
  case atStart => exact ⟨(([] : List (List Int))), (0), sr_, H', ⟨Nat.le_refl _⟩, ⟨by first | exact Kd.S_nil _ _ _ _ _ | exact Kd.N_nil _ _ _ _ _ | exact Kd.V_nil _ _ _ _ _ | exact Kd.Q_nil _ _ _ _ _ | exact Kd.R_nil _ _ _ _ _⟩, ⟨kp_ BK469⟩, ⟨hb_ HB⟩⟩
  clear H'
  obtain ⟨x4_1, x5_1, rfl, HA, HK1, HO_4, BK469, HB⟩ := hrel
  cases gk with
  | zero => exact absurd HA.out (by simp [spec_LevelSums.l0])
  | succ k1 => ?_
  have H := HA.out
  clear HA
  simp only [spec_LevelSums.l0] at H
  by_cases c7 : x5_1 < a0_2
  ·rw [if_pos c7] at H
   have c7b0 := decide_eq_true c7
   clear c7
   revert H; refine bn_ ?_; rintro ⟨t471, t474⟩ A8 H; try dsimp only at H
   revert H; refine bn_ ?_; rintro ⟨t475, t476⟩ A9 H; try dsimp only at H
   obtain ⟨y477, hy477⟩ : ∃ y_ : List Int, y_ = (([t475, t476] : List Int)) := ⟨_, rfl⟩
   (try with_reducible replace H := (Option.bind_some _ _).symm.trans H); (try dsimp only at H); (try rw [← hy477] at H)
   have Ny477 := am_ hy477
   clear hy477
   revert H; refine pf_ fun c10 H => ?_
   have LMc10 := am_ c10
   clear c10
   obtain ⟨y480, hy480⟩ : ∃ y_ : List (List Int), y_ = (x4_1 ++ [y477]) := ⟨_, rfl⟩
   (try with_reducible replace H := (Option.bind_some _ _).symm.trans H); (try dsimp only at H); (try rw [← hy480] at H)
   have Ny480 := am_ hy480
   clear hy480
   have H' := am_ H
   clear H
   obtain ⟨hcz11_0, hcz11_1, hcz11_2, hcz11_3, hcz11_4, hcz11_5, hfz11_0, hfz11_1, hfz11_2, hfz11_3, hfz11_4, hfz11_5⟩ := bx6 BK469
   go_wp2_with (first | ((with_reducible refine gk_ 42 ?_); refine gq_ 24 Tryz.func42 #[.agg #[.int .i64 a0_0, .int .i64 a0_1, .int .i64 a0_2], .int .i64 x5_1] ?_; (with_reducible refine (spec_LevelBlocks.calls k1 a0_0 a0_1 a0_2 x5_1 t471 t474 _ A8.out).mono ?_); rintro e w12 ⟨v472, rfl, ho0, hb⟩; refine ⟨_, rfl, ?_⟩; have HO473 := Kd.R_lo ho0 HB; replace HO_4 := am_ (Kd.S_elder' (by (with_reducible repeat (first | apply Kd.S_alloc | apply Kd.S_drewN | apply Kd.S_drew)); exact HO_4.out) (Kd.R_base ho0) hb); replace BK469 := kb_ BK469 hb; replace HB := hbs_ HB hb; obtain ⟨hcz13_0, hcz13_1, hcz13_2, hcz13_3, hcz13_4, hcz13_5, hfz13_0, hfz13_1, hfz13_2, hfz13_3, hfz13_4, hfz13_5⟩ := bx6 BK469; obtain ⟨Ao14, co14, eo14⟩ := Kd.R_slice HO473.out; subst eo14) | ((with_reducible refine gk_ 43 ?_); refine gq_ 30 Tryz.func43 #[.agg #[.int .i64 a0_0, .int .i64 a0_1, .int .i64 a0_2, .slice A0_3 l0_3.length c0_3, .slice A0_4 l0_4.length c0_4, .slice A0_5 l0_5.length c0_5], .slice Ao14 t471.length co14] ?_; (with_reducible refine (spec_moSums.calls k1 a0_0 a0_1 a0_2 _ _ l0_3 _ _ l0_4 _ _ l0_5 _ _ t471 t475 t476 _ ?_ ?_ ?_ ?_ ?_ ?_ ?_ ?_ A9.out).mono ?_); exact Kd.C_w HR0_3 HB; exact HC0_3.out; exact Kd.C_w HR0_4 HB; exact HC0_4.out; exact Kd.C_w HR0_5 HB; exact HC0_5.out; exact Kd.C_o HO473; exact (Kd.R_reads' HO473.out).2.1; rintro e w15 ⟨rfl, hb⟩; refine ⟨_, rfl, ?_⟩; replace HO_4 := am_ (Kd.S_below (by (with_reducible repeat (first | apply Kd.S_alloc | apply Kd.S_drewN | apply Kd.S_drew)); exact HO_4.out) hb); replace HO473 := Kd.R_b HO473 hb; replace BK469 := kb_ BK469 hb; replace HB := hbs_ HB hb; try clear HO473) | ((with_reducible refine gate_dst (N := 36) rfl ?_); refine Kd.R_lit (Kd.int .i64) _ 3 ?hg (N := 36) ?hd (xs := ([t475, t476] : List Int)) (inner := [.int .i64 t475, .int .i64 t476]) (ok := fun _ => True) (okp := fun _ => True) ?hr ?hp (fun _ hk => hk) trivial (Below.refl _ _) (Nat.le_refl _) (by simp) ?_; (case hd => rfl); (case hg => rfl); (case hr => first | (go_simp; done) | (go_simp; rfl)); (case hp => exact (Reps.one (show Kd.M (Kd.int .i64) _ _ _ t475 [.int .i64 t475] from rfl) (Reps.one (show Kd.M (Kd.int .i64) _ _ _ t476 [.int .i64 t476] from rfl) (Reps.none _ _)))); intro v478 w16 ho17 hb hg_ hnew_; clear hg_ hnew_; (first | rw [← Ny477.out] at ho17 | (simp only [Int.reduceToNat] at ho17; rw [← Ny477.out] at ho17)); have HO479 := Kd.R_lo ho17 HB; replace HO_4 := am_ (Kd.S_elder' (by (with_reducible repeat (first | apply Kd.S_alloc | apply Kd.S_drewN | apply Kd.S_drew)); exact HO_4.out) (Kd.R_base ho17) hb); replace BK469 := kb_ BK469 hb; replace HB := hbs_ HB hb; clear hb ho17; obtain ⟨Ao19, co19, eo19⟩ := Kd.R_slice HO479.out; subst eo19) | ((with_reducible refine gate_builtin (b := .append) (xs := #[.tmp 33, .tmp 37]) rfl ?_); at_builtin; refine Kd.S_append (Kd.slice 3 (Kd.int .i64)) (w0 := w) w.heap.size rfl (.tmp 33) (.tmp 37) 35 26 (.slice none 0 0) 24 rfl Tryz.underlying35 info26 rfl (by decide) (by omega) u4 x4_1 y477 [.slice Ao19 y477.length co19] (fun _ => True) (fun k_ => some k_ = (.slice Ao19 y477.length co19 : Value).ownBlock) rfl rfl ?aP (fun k_ hk_ => ((Kd.R_mono (ok' := fun k_ => ((fun _ => True)) k_ ∧ some k_ ≠ (u4 : Value).ownBlock) (Kd.R_apart' (HO479.out) (Kd.S_typed HO_4.out) (by decide)) (fun k_ hk => ⟨trivial, hk.2⟩))).1 k_ hk_.symm) ?aF ?aO ?aB ?aS ?aL ?_; (case aP => exact Kd.M_row (Kd.R_mono (Kd.R_tight rfl (Kd.R_mono (ok' := fun k_ => ((fun _ => True)) k_ ∧ some k_ ≠ (u4 : Value).ownBlock) (Kd.R_apart' (HO479.out) (Kd.S_typed HO_4.out) (by decide)) (fun k_ hk => ⟨trivial, hk.2⟩))) (fun _ h_ => h_))); (case aB => exact (hb_ HB)); (case aF => exact (fun _ _ => trivial)); (case aO => exact (by (with_reducible repeat (first | apply Kd.S_alloc | apply Kd.S_drewN | apply Kd.S_drew)); exact Kd.S_mono HO_4.out (fun k_ hk => ⟨trivial, fun e_ => hk.2 e_⟩))); (case aS => exact (below_size (hb_ HB))); (case aL => have := LMc10.out; omega); intro v481 w18 ho hb hg hat; rw [← Ny480.out] at ho; have HO482 := am_ (ho); replace BK469 := am_ (blk_grown (kp_ BK469) hg (Kd.S_ne HO_4.out BK469.out (by decide))); replace HB := am_ (hb); clear HO_4 HO479; clear ho hb hg hat))
   go_roundg k1
   case measure => have := HK1.out; omega
   case rel => exact ⟨(y480), (wrap64 (x5_1 + 1)), sr_, H', ⟨by have := HK1.out; omega⟩, ⟨by (with_reducible repeat (first | apply Kd.S_alloc | apply Kd.S_drewN | apply Kd.S_drew)); exact HO482.out⟩, ⟨kp_ BK469⟩, ⟨hb_ HB⟩⟩
  rw [if_neg c7] at H
  have c7b0 := decide_eq_false c7
  clear c7
  simp only [Option.some.injEq, Prod.mk.injEq] at H
  obtain ⟨rfl, rfl⟩ := H
  obtain ⟨hcz20_0, hcz20_1, hcz20_2, hcz20_3, hcz20_4, hcz20_5, hfz20_0, hfz20_1, hfz20_2, hfz20_3, hfz20_4, hfz20_5⟩ := bx6 BK469
  go_wp2
  go_ret2
  exact ⟨_, se_, by (with_reducible repeat (first | apply Kd.S_alloc | apply Kd.S_drewN | apply Kd.S_drew)); exact HO_4.out, hb_ HB⟩
 replace c3 := Bool.eq_false_iff.mpr c3
 subst c3
 rw [if_neg (show ¬ (false = true) by decide)] at H
 simp only [Option.some.injEq, Prod.mk.injEq] at H
 obtain ⟨rfl, rfl⟩ := H
 go_enter Tryz.func11, Tryz.ntmps11
 go_wp2_with (first | ((with_reducible refine gate_dst (N := 1) rfl ?_); refine bv_ 1 (cs := #[.int .i64 a0_0, .int .i64 a0_1, .int .i64 a0_2, .slice A0_3 l0_3.length c0_3, .slice A0_4 l0_4.length c0_4, .slice A0_5 l0_5.length c0_5]) (t := 28) ?_; intro gb469 hg w21 hbox hb; have BK469 := am_ (hbox); have GW469 := gs_ hg HB; have GE469 := gs_ hg HB; replace HB := hbs_ HB hb; clear hb hbox hg; obtain ⟨hcz22_0, hcz22_1, hcz22_2, hcz22_3, hcz22_4, hcz22_5, hfz22_0, hfz22_1, hfz22_2, hfz22_3, hfz22_4, hfz22_5⟩ := bx6 BK469) | ((with_reducible refine gk_ 31 ?_); refine gq_ 11 Tryz.func31 #[.agg #[.int .i64 a0_0, .int .i64 a0_1, .int .i64 a0_2, .slice A0_3 l0_3.length c0_3, .slice A0_4 l0_4.length c0_4, .slice A0_5 l0_5.length c0_5]] ?_; (with_reducible refine (spec_moGood.calls k a0_0 a0_1 a0_2 _ _ l0_3 _ _ l0_4 _ _ l0_5 false _ ?_ ?_ ?_ ?_ ?_ ?_ A2.out).mono ?_); exact Kd.C_w HR0_3 HB; exact HC0_3.out; exact Kd.C_w HR0_4 HB; exact HC0_4.out; exact Kd.C_w HR0_5 HB; exact HC0_5.out; rintro e w23 ⟨rfl, hb⟩; refine ⟨_, rfl, ?_⟩; replace BK469 := kb_ BK469 hb; replace HB := hbs_ HB hb))
 go_ret2
 exact ⟨_, se_, by first | exact Kd.S_nil _ _ _ _ _ | exact Kd.N_nil _ _ _ _ _ | exact Kd.V_nil _ _ _ _ _ | exact Kd.Q_nil _ _ _ _ _ | exact Kd.R_nil _ _ _ _ _, hb_ HB⟩

/-! ### impl_RockTonnes: function 12 -/
def impl_RockTonnes.l0 : Nat → List Int → List Int → Int → Int → Int → Int → Int → List Int → List Int → List Int → Option (List Int × Bool)
 | 0, _, _, _, _, _, _, _, _, _, _ => none
 | k + 1, x4, x12, x13, x14, x484000, x484001, x484002, x484003, x484004, x484005 => if x14 < x13 then (if 0 ≤ x14 then (if x14 < (x12.length : Int) then (if 0 ≤ (rd x12 x14) then (if (rd x12 x14) < (x4.length : Int) then (if x14 < (x484003.length : Int) then (impl_RockTonnes.l0 k (x4.set ((rd x12 x14) : Int).toNat (wrap64 ((rd x4 (rd x12 x14)) + (rd x484003 x14)))) x12 x13 (wrap64 (x14 + 1)) x484000 x484001 x484002 x484003 x484004 x484005) else (none)) else (none)) else (none)) else (none)) else (none)) else (some (x4, true))
def impl_RockTonnes.f (k : Nat) (a0_0 : Int) (a0_1 : Int) (a0_2 : Int) (l0_3 : List Int) (l0_4 : List Int) (l0_5 : List Int) : Option (List Int × Bool) := (impl_IsModel.f k a0_0 a0_1 a0_2 l0_3 l0_4 l0_5).bind fun t484 => (if t484 = true then (if 5 ≤ 35184372088832 then (impl_RockTonnes.l0 k (List.replicate 5 0) l0_5 (l0_5.length : Int) 0 a0_0 a0_1 a0_2 l0_3 l0_4 l0_5) else (none)) else (some (([] : List Int), false)))
def impl_RockTonnes.T7 : Bool × List (List Nat × List Nat) := (true, [([], []), ([], []), ([0, 1], [0, 1]), ([2], [2]), ([], []), ([4], [4]), ([], []), ([5, 6], [5, 6]), ([7], [7]), ([3, 8], [3, 8]), ([0, 1, 0, 1, 2, 3, 4, 5, 6, 7, 8, 9], [0, 1]), ([10, 9, 0, 1, 2, 3, 4, 5, 6, 7, 8, 9], [9, 10])])
def impl_RockTonnes.B7 : List Nat := [0, 0, 3, 7, 0, 16, 0, 112, 240, 511, 1023, 2047]
theorem impl_RockTonnes.tab7 : rtab .any (opsOf Tryz.f12 7) = impl_RockTonnes.T7 := by kernel_rfl
theorem impl_RockTonnes.bits7 : waitsOk impl_RockTonnes.T7.2 impl_RockTonnes.B7 = true := by kernel_rfl
theorem impl_RockTonnes.calls (k : Nat) (a0_0 : Int) (a0_1 : Int) (a0_2 : Int) (A0_3 : Option Addr) (c0_3 : Nat) (l0_3 : List Int) (A0_4 : Option Addr) (c0_4 : Nat) (l0_4 : List Int) (A0_5 : Option Addr) (c0_5 : Nat) (l0_5 : List Int) (r1 : List Int) (r2 : Bool) (w : World) (hr0_3 : Kd.C (Kd.int .i64) w A0_3 l0_3.length l0_3) (hc0_3 : l0_3.length ≤ c0_3) (hr0_4 : Kd.C (Kd.int .i64) w A0_4 l0_4.length l0_4) (hc0_4 : l0_4.length ≤ c0_4) (hr0_5 : Kd.C (Kd.int .i64) w A0_5 l0_5.length l0_5) (hc0_5 : l0_5.length ≤ c0_5) (h : impl_RockTonnes.f k a0_0 a0_1 a0_2 l0_3 l0_4 l0_5 = some (r1, r2)) :
  Calls Tryz.prog 12 #[.agg #[.int .i64 a0_0, .int .i64 a0_1, .int .i64 a0_2, .slice A0_3 l0_3.length c0_3, .slice A0_4 l0_4.length c0_4, .slice A0_5 l0_5.length c0_5]] w fun e w' => ∃ v0_ : Value, e = .returned (.tuple #[v0_, .bool r2]) ∧ Kd.R (Kd.int .i64) 3 w' w.heap.size (fun _ => True) v0_ r1 ∧ Below w.heap.size w w' := by
 have hu28 := Tryz.underlying28
 have HR0_3 := am_ hr0_3
 have HC0_3 := am_ hc0_3
 clear hr0_3 hc0_3
 have HR0_4 := am_ hr0_4
 have HC0_4 := am_ hc0_4
 clear hr0_4 hc0_4
 have HR0_5 := am_ hr0_5
 have HC0_5 := am_ hc0_5
 clear hr0_5 hc0_5
 have HB := am_ (Below.refl w.heap.size w)
 have H := h
 unfold impl_RockTonnes.f at H
 clear h
 revert H; refine bn_ ?_; rintro t484 A2 H; try dsimp only at H
 by_cases c3 : t484 = true
 ·subst c3
  rw [if_pos rfl] at H
  revert H; refine pf_ fun c4 H => ?_
  have c4b0 := eq_true c4
  have c4b1 := decide_eq_true c4
  clear c4
  obtain ⟨y485, hy485⟩ : ∃ y_ : List Int, y_ = (List.replicate 5 0) := ⟨_, rfl⟩
  (try with_reducible replace H := (Option.bind_some _ _).symm.trans H); (try dsimp only at H); (try rw [← hy485] at H)
  have Ny485 := am_ hy485
  clear hy485
  have H' := am_ H
  clear H
  go_enter Tryz.func12, Tryz.ntmps12
  go_wp2_with (first | ((with_reducible refine gate_dst (N := 1) rfl ?_); refine bv_ 1 (cs := #[.int .i64 a0_0, .int .i64 a0_1, .int .i64 a0_2, .slice A0_3 l0_3.length c0_3, .slice A0_4 l0_4.length c0_4, .slice A0_5 l0_5.length c0_5]) (t := 28) ?_; intro gb483 hg w5 hbox hb; have BK483 := am_ (hbox); have GW483 := gs_ hg HB; have GE483 := gs_ hg HB; replace HB := hbs_ HB hb; clear hb hbox hg; obtain ⟨hcz6_0, hcz6_1, hcz6_2, hcz6_3, hcz6_4, hcz6_5, hfz6_0, hfz6_1, hfz6_2, hfz6_3, hfz6_4, hfz6_5⟩ := bx6 BK483) | ((with_reducible refine gk_ 8 ?_); refine gq_ 8 Tryz.func8 #[.agg #[.int .i64 a0_0, .int .i64 a0_1, .int .i64 a0_2, .slice A0_3 l0_3.length c0_3, .slice A0_4 l0_4.length c0_4, .slice A0_5 l0_5.length c0_5]] ?_; (with_reducible refine (impl_IsModel.calls k a0_0 a0_1 a0_2 _ _ l0_3 _ _ l0_4 _ _ l0_5 true _ ?_ ?_ ?_ ?_ ?_ ?_ A2.out).mono ?_); exact Kd.C_w HR0_3 HB; exact HC0_3.out; exact Kd.C_w HR0_4 HB; exact HC0_4.out; exact Kd.C_w HR0_5 HB; exact HC0_5.out; rintro e w7 ⟨rfl, hb⟩; refine ⟨_, rfl, ?_⟩; replace BK483 := kb_ BK483 hb; replace HB := hbs_ HB hb) | ((with_reducible refine gate_dst (N := 10) rfl ?_); refine Kd.R_make (Kd.int .i64) _ 3 rfl (N := 10) rfl 26 _ _ rfl 5 rfl rfl Tryz.underlying26 (.int .i64 0) 8 info3 rfl (by decide) (by omega) 0 (ok := fun _ => True) (okp := fun _ => True) rfl (fun _ hk => hk) trivial (by omega) (by omega) (Below.refl _ _) (Nat.le_refl _) ?_; intro v486 w8 ho9 hb hg_ hnew_; clear hg_ hnew_; (first | rw [← Ny485.out] at ho9 | (simp only [Int.reduceToNat] at ho9; rw [← Ny485.out] at ho9)); have HO487 := Kd.R_lo ho9 HB; replace BK483 := kb_ BK483 hb; replace HB := hbs_ HB hb; clear hb ho9; obtain ⟨hcz10_0, hcz10_1, hcz10_2, hcz10_3, hcz10_4, hcz10_5, hfz10_0, hfz10_1, hfz10_2, hfz10_3, hfz10_4, hfz10_5⟩ := bx6 BK483))
  go_loopg [14] k (fun kq v14 w' => ∃ (x4_1 : List Int) (x14_1 : Int), v14 = .int .i64 x14_1 ∧ Aside0 (impl_RockTonnes.l0 kq x4_1 l0_5 (l0_5.length : Int) x14_1 a0_0 a0_1 a0_2 l0_3 l0_4 l0_5 = some (r1, r2)) ∧ Aside0 (kq ≤ k) ∧ Aside0 (Kd.R (Kd.int .i64) 3 w' w.heap.size (fun _ => True) v486 x4_1) ∧ Aside0 (w'.heap[gb483]? = some (.cells #[.int .i64 a0_0, .int .i64 a0_1, .int .i64 a0_2, (.slice A0_3 l0_3.length c0_3), (.slice A0_4 l0_4.length c0_4), (.slice A0_5 l0_5.length c0_5)] 28 (0, 0))) ∧ Aside0 (Below w.heap.size w w'))
  case atStart => exact ⟨(y485), (0), sr_, H', ⟨Nat.le_refl _⟩, ⟨Kd.R_p HO487⟩, ⟨kp_ BK483⟩, ⟨hb_ HB⟩⟩
  clear H'
  obtain ⟨x4_1, x14_1, rfl, HA, HK1, HO_4, BK483, HB⟩ := hrel
  cases gk with
  | zero => exact absurd HA.out (by simp [impl_RockTonnes.l0])
  | succ k1 => ?_
  have H := HA.out
  clear HA
  simp only [impl_RockTonnes.l0] at H
  by_cases c11 : x14_1 < (l0_5.length : Int)
  case neg => rw [if_neg c11] at H; have c11b0 := decide_eq_false c11; clear c11; simp only [Option.some.injEq, Prod.mk.injEq] at H; obtain ⟨rfl, rfl⟩ := H; go_wp2; go_ret2; (exact ⟨_, se_, Kd.R_p HO_4, hb_ HB⟩)
  rw [if_pos c11] at H
  have c11b0 := decide_eq_true c11
  clear c11
  revert H; refine pd_ fun c12b0 H => ?_
  revert H; refine pd_ fun c13b0 H => ?_
  revert H; refine pd_ fun c14b0 H => ?_
  revert H; refine pd_ fun c15b0 H => ?_
  revert H; refine pd_ fun c16b0 H => ?_
  obtain ⟨y491, hy491⟩ : ∃ y_ : List Int, y_ = (x4_1.set ((rd l0_5 x14_1) : Int).toNat (wrap64 ((rd x4_1 (rd l0_5 x14_1)) + (rd l0_3 x14_1)))) := ⟨_, rfl⟩
  (try with_reducible replace H := (Option.bind_some _ _).symm.trans H); (try dsimp only at H); (try rw [← hy491] at H)
  have Ny491 := am_ hy491
  clear hy491
  have H' := am_ H
  clear H
  have p488 : 0 ≤ (x14_1 : Int) := od_
  have q488 : x14_1 < (l0_5.length : Int) := od_
  obtain ⟨ad488, e488, hx488_0⟩ := Kd.at_int HR0_5.out x14_1 p488 q488
  cases e488
  try replace hx488_0 := hc_ HB hx488_0
  replace p488 := eq_true p488
  replace q488 := eq_true q488
  try go_wp2
  replace HO_4 := am_ (Kd.R_drew HO_4.out)
  replace BK483 := am_ (blk_drew BK483.out)
  replace HB := am_ (below_drew1 HB.out)
  obtain ⟨Ao19, co19, eo19⟩ := Kd.R_slice HO_4.out
  (first | subst eo19 | (injection eo19 with f1_ f2_ f3_; have f4_ := f1_.symm; have f5_ := f3_.symm; clear f1_ f2_ f3_; subst f4_; subst f5_))
  obtain ⟨ad489, e489, hx489_0, p489, q489⟩ := ai_ (Kd.R_reads' HO_4.out).2.2 (rd l0_5 x14_1)
  cases e489
  have p490 : 0 ≤ (x14_1 : Int) := od_
  have q490 : x14_1 < (l0_3.length : Int) := od_
  obtain ⟨ad490, e490, hx490_0⟩ := Kd.at_int HR0_3.out x14_1 p490 q490
  have hw490_0 := hx490_0
  cases e490
  try replace hx490_0 := hc_ HB hx490_0
  replace p490 := eq_true p490
  replace q490 := eq_true q490
  have p17 : 0 ≤ ((rd l0_5 x14_1) : Int) := od_
  have q17 : ((rd l0_5 x14_1) : Int) < ((x4_1.length : Int) : Int) := od_
  obtain ⟨go17, co17, eo17, gb17, gl17, cl17, HG17⟩ := Kd.R_form HO_4.out (by omega)
  (first | cases eo17 | (injection eo17 with ea_ en_ ec_; (first | subst ea_ | (injection ea_ with ea_; subst ea_)); subst ec_; clear en_))
  have GB17 := am_ gb17
  have GG17 := am_ HG17
  clear gb17 gl17 HG17
  (first | simp only [add_plain] at hx489_0 | skip)
  obtain ⟨hx17_0, hf17_0⟩ := Kd.R_celln 0 HO_4.out ((rd l0_5 x14_1) : Int) p17 q17
  replace p17 := eq_true p17
  replace q17 := eq_true q17
  have HP20 := Kd.R_putn HO_4.out ((rd l0_5 x14_1) : Int) (wrap64 ((rd x4_1 (rd l0_5 x14_1)) + (rd l0_3 x14_1)))
  rw [← Ny491.out] at HP20
  have HQ20 := am_ HP20
  clear HP20
  refine start_ (n := 12) (S := fun w' => w'.cell? ⟨gb483, 0, none⟩ = some (.int .i64 a0_0) ∧ w'.cell? ⟨gb483, 1, none⟩ = some (.int .i64 a0_1) ∧ w'.cell? ⟨gb483, 2, none⟩ = some (.int .i64 a0_2) ∧ w'.cell? ⟨gb483, 3, none⟩ = some (.slice (some ad490) l0_3.length c0_3) ∧ w'.cell? ⟨gb483, 4, none⟩ = some (.slice A0_4 l0_4.length c0_4) ∧ w'.cell? ⟨gb483, 5, none⟩ = some (.slice (some ad488) l0_5.length c0_5) ∧ w'.cell? ⟨go17, ((rd l0_5 x14_1)).toNat, none⟩ = some (.int .i64 (rd x4_1 (rd l0_5 x14_1))) ∧ w'.cell? (ad490.add (x14_1).toNat) = some (.int .i64 (rd l0_3 x14_1))) (ds := [11]) (bb 12 0) (by kernel_rfl) rfl rfl ⟨(blk_cell BK483.out 0).trans rfl, (blk_cell BK483.out 1).trans rfl, (blk_cell BK483.out 2).trans rfl, (blk_cell BK483.out 3).trans rfl, (blk_cell BK483.out 4).trans rfl, (blk_cell BK483.out 5).trans rfl, hx489_0, (hcl_ HB hw490_0)⟩ (fun hHeld => ?_); refine with_tabW impl_RockTonnes.tab7 impl_RockTonnes.bits7 (fun HT_ HW_ => ?_)
  generalize wr.drew = w18 at HO_4 BK483 HB GG17 HQ20 hf17_0 hx17_0 hx489_0 hx490_0 hHeld ⊢
  refine pm_ HT_ 0 19 12 1 ?_
  refine pm_ HT_ 1 20 12 3 ?_
  refine pm_ HT_ 2 21 12 7 ?_
  refine pm_ HT_ 4 23 12 23 ?_
  refine pm_ HT_ 6 25 12 87 ?_
  refine tk_ HT_ HW_ hHeld 3 (some 22) (bb 12 95) (h := ?_)
  refine tk_ HT_ HW_ hHeld 5 (some 24) (bb 12 127) (h := ?_)
  refine pm_ HT_ 7 26 12 255 ?_
  refine tk_ HT_ HW_ hHeld 8 (some 27) (bb 12 511) (h := ?_)
  refine pm_ HT_ 9 28 12 1023 ?_
  refine pm_ HT_ 10 29 12 2047 ?_
  refine last_ (i := 11) (N := none) (bb 12 4095) rfl rfl (one_of HT_.out (by kernel_rfl)) (by decide) (fun K hK => ?_)
  refine skip_ (w1 := ?_) (by rfl) rfl ?_ ?_
  rotate_left
  ·go_simp
   rfl
  refine hK.out _ _ ?_
  clear hK K
  refine done_ (done_of HT_.out (by kernel_rfl)) ?_
  try go_wp2
  go_roundg k1
  case measure => have := HK1.out; omega
  case rel => exact ⟨(y491), (wrap64 (x14_1 + 1)), sr_, H', ⟨by have := HK1.out; omega⟩, ⟨Kd.R_p HQ20⟩, ⟨by (with_reducible repeat (first | refine blk_drewN ?_ _ | refine blk_drew ?_ | refine blk_alloc ?_ _)); refine blk_far ?_ (by have h_ := Kd.R_ne HO_4.out BK483.out (by decide); intro e_; exact h_ (by rw [e_]; rfl)) _; (with_reducible repeat (first | refine blk_drewN ?_ _ | refine blk_drew ?_ | refine blk_alloc ?_ _)); exact BK483.out⟩, ⟨by repeat (first | (with_reducible first | exact HB.out | apply below_alloc | apply pw_below_drewN | apply below_drew1 | refine below_set ?_ GB17.out | refine below_set ?_ GE483.out) | exact HB.out)⟩⟩
 replace c3 := Bool.eq_false_iff.mpr c3
 subst c3
 rw [if_neg (show ¬ (false = true) by decide)] at H
 simp only [Option.some.injEq, Prod.mk.injEq] at H
 obtain ⟨rfl, rfl⟩ := H
 go_enter Tryz.func12, Tryz.ntmps12
 go_wp2_with (first | ((with_reducible refine gate_dst (N := 1) rfl ?_); refine bv_ 1 (cs := #[.int .i64 a0_0, .int .i64 a0_1, .int .i64 a0_2, .slice A0_3 l0_3.length c0_3, .slice A0_4 l0_4.length c0_4, .slice A0_5 l0_5.length c0_5]) (t := 28) ?_; intro gb483 hg w21 hbox hb; have BK483 := am_ (hbox); have GW483 := gs_ hg HB; have GE483 := gs_ hg HB; replace HB := hbs_ HB hb; clear hb hbox hg; obtain ⟨hcz22_0, hcz22_1, hcz22_2, hcz22_3, hcz22_4, hcz22_5, hfz22_0, hfz22_1, hfz22_2, hfz22_3, hfz22_4, hfz22_5⟩ := bx6 BK483) | ((with_reducible refine gk_ 8 ?_); refine gq_ 8 Tryz.func8 #[.agg #[.int .i64 a0_0, .int .i64 a0_1, .int .i64 a0_2, .slice A0_3 l0_3.length c0_3, .slice A0_4 l0_4.length c0_4, .slice A0_5 l0_5.length c0_5]] ?_; (with_reducible refine (impl_IsModel.calls k a0_0 a0_1 a0_2 _ _ l0_3 _ _ l0_4 _ _ l0_5 false _ ?_ ?_ ?_ ?_ ?_ ?_ A2.out).mono ?_); exact Kd.C_w HR0_3 HB; exact HC0_3.out; exact Kd.C_w HR0_4 HB; exact HC0_4.out; exact Kd.C_w HR0_5 HB; exact HC0_5.out; rintro e w23 ⟨rfl, hb⟩; refine ⟨_, rfl, ?_⟩; replace BK483 := kb_ BK483 hb; replace HB := hbs_ HB hb))
 go_ret2
 exact ⟨_, se_, by first | exact Kd.R_nil _ _ _ _ _ | exact Kd.N_nil _ _ _ _ _ | exact Kd.V_nil _ _ _ _ _ | exact Kd.Q_nil _ _ _ _ _ | exact Kd.S_nil _ _ _ _ _, hb_ HB⟩

end Go.Proofs.YthphbkkkbolcnaaGreatDoor.PFnModels
