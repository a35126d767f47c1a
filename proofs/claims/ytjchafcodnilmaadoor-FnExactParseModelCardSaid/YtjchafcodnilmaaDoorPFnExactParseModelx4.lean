-- Laid for this claim by wip/tools/print2.sh, a changed copy of the kit's print (wip/tools/patch_print.py): not by print.sh.
import Derived.Test.YtjchafcodnilmaaDoorPFnExactParseModelx0
import Derived.Test.YtjchafcodnilmaaDoorPFnExactParseModelx1
import Derived.Test.YtjchafcodnilmaaDoorPFnExactParseModelx3
namespace Go.Proofs.YtjchafcodnilmaaDoor.PFnExactParseModel
open Go.RowKit Go.Proofs.YtjchafcodnilmaaDoorW.PrintWords Go.Proofs.YtjchafcodnilmaaDoorW.PrintLast Go.Proofs.YtjchafcodnilmaaDoorW.PrintMore
attribute [local go_sem] max2_int min2_int max_two min_two max_three min_three max_four min_four   -- for this text's walks alone
set_option linter.unusedVariables false
set_option linter.unusedSimpArgs false

/-! ### spec_ParseModel: function 4 -/
mutual
def spec_ParseModel.j0 : Nat → ByteArray → List ByteArray → List ByteArray → Bool → Option (Int × Int × Int × List Int × List Int × List Int × Bool)
 | 0, _, _, _, _ => none
 | k + 1, x0, x4, x5, x24 => if x24 = true then (some (0, 0, 0, ([] : List Int), ([] : List Int), ([] : List Int), false)) else (if 1 < (x5.length : Int) then ((spec_l1Split.f k (rdOf ByteArray.empty x5 1) 120).bind fun t149 => (if (t149.length : Int) = 3 then (if 0 < (t149.length : Int) then ((spec_l1Read.f k (rdOf ByteArray.empty t149 0)).bind fun t153 => (if 1 < (t149.length : Int) then ((spec_l1Read.f k (rdOf ByteArray.empty t149 1)).bind fun t155 => (if 2 < (t149.length : Int) then ((spec_l1Read.f k (rdOf ByteArray.empty t149 2)).bind fun t157 => (if 1 ≤ (x4.length : Int) then ((some (x4.drop 1 : List ByteArray)).bind fun y159 => (spec_ParseModel.l0 k x0 y159 (y159.length : Int) 0 t153 t155 t157 ([] : List Int) ([] : List Int) ([] : List Int))) else (none))) else (none))) else (none))) else (none)) else (some (0, 0, 0, ([] : List Int), ([] : List Int), ([] : List Int), false)))) else (none))
def spec_ParseModel.l0 : Nat → ByteArray → List ByteArray → Int → Int → Int → Int → Int → List Int → List Int → List Int → Option (Int × Int × Int × List Int × List Int × List Int × Bool)
 | 0, _, _, _, _, _, _, _, _, _, _ => none
 | k + 1, x0, x49, x50, x51, x159000, x159001, x159002, x159003, x159004, x159005 => if x51 < x50 then (if 0 ≤ x51 then (if x51 < (x49.length : Int) then ((spec_l1Split.f k (rdOf ByteArray.empty x49 x51) 32).bind fun t164 => (if (t164.length : Int) = 3 then (if 0 < (t164.length : Int) then ((spec_l1Read.f k (rdOf ByteArray.empty t164 0)).bind fun t168 => (if x159003.length < 17592186044416 then (if 1 < (t164.length : Int) then ((spec_l1Read.f k (rdOf ByteArray.empty t164 1)).bind fun t173 => (if x159004.length < 17592186044416 then (if 2 < (t164.length : Int) then ((spec_l1Read.f k (rdOf ByteArray.empty t164 2)).bind fun t178 => (if x159005.length < 17592186044416 then (spec_ParseModel.l0 k x0 x49 x50 (wrap64 (x51 + 1)) x159000 x159001 x159002 (x159003 ++ [t168]) (x159004 ++ [t173]) (x159005 ++ [t178])) else (none))) else (none)) else (none))) else (none)) else (none))) else (none)) else (spec_ParseModel.l0 k x0 x49 x50 (wrap64 (x51 + 1)) x159000 x159001 x159002 x159003 x159004 x159005))) else (none)) else (none)) else ((spec_moGood.f k x159000 x159001 x159002 x159003 x159004 x159005).bind fun t182 => (if t182 = true then ((spec_moText.f k x159000 x159001 x159002 x159003 x159004 x159005).bind fun t183 => (if t183.toList = x0.toList then (some (x159000, x159001, x159002, x159003, x159004, x159005, true)) else (some (0, 0, 0, ([] : List Int), ([] : List Int), ([] : List Int), false)))) else (some (0, 0, 0, ([] : List Int), ([] : List Int), ([] : List Int), false))))
end
def spec_ParseModel.f (k : Nat) (a0 : ByteArray) : Option (Int × Int × Int × List Int × List Int × List Int × Bool) := (spec_l1Split.f k a0 10).bind fun t141 => (if 0 < (t141.length : Int) then ((spec_l1Split.f k (rdOf ByteArray.empty t141 0) 32).bind fun t145 => (if (t141.length : Int) > 122 then (spec_ParseModel.j0 k a0 t141 t145 true) else (spec_ParseModel.j0 k a0 t141 t145 ((t145.length : Int) != 2)))) else (none))
def spec_ParseModel.T8 : Bool × List (List Nat × List Nat) := (true, [([], []), ([0], [0]), ([1], [1]), ([2], [2]), ([], []), ([4], [4]), ([5], [5]), ([6, 3], [6]), ([], []), ([8], [8]), ([9], [9]), ([10, 7], [10]), ([3, 7, 11], [3, 7, 11]), ([12], [12]), ([], []), ([14, 13, 11, 0, 1, 2, 3, 4, 5, 6, 7, 8, 9, 10, 11, 12, 13, 14], [13, 14])])
def spec_ParseModel.B8 : List Nat := [0, 1, 3, 7, 0, 16, 48, 127, 0, 256, 768, 2047, 4095, 8191, 0, 32767]
theorem spec_ParseModel.tab8 : rtab .any (opsOf Tryd.f4 8) = spec_ParseModel.T8 := by kernel_rfl
theorem spec_ParseModel.bits8 : waitsOk spec_ParseModel.T8.2 spec_ParseModel.B8 = true := by kernel_rfl
def spec_ParseModel.T14 : Bool × List (List Nat × List Nat) := (true, [([], []), ([0], [0]), ([], []), ([2], [2]), ([3], [3]), ([4], [4]), ([5], [5]), ([1, 6, 5], [1, 6]), ([0, 1, 2, 3, 4, 5, 6, 7], []), ([8, 7, 7, 0, 1, 2, 3, 4, 5, 6, 7], [7, 8])])
def spec_ParseModel.B14 : List Nat := [0, 1, 0, 4, 12, 28, 60, 127, 255, 511]
theorem spec_ParseModel.tab14 : rtab .any (opsOf Tryd.f4 14) = spec_ParseModel.T14 := by kernel_rfl
theorem spec_ParseModel.bits14 : waitsOk spec_ParseModel.T14.2 spec_ParseModel.B14 = true := by kernel_rfl
def spec_ParseModel.T15 : Bool × List (List Nat × List Nat) := (true, [([], []), ([0], [0]), ([], []), ([2], [2]), ([3], [3]), ([4], [4]), ([5], [5]), ([1, 6, 5], [1, 6]), ([0, 1, 2, 3, 4, 5, 6, 7], []), ([8, 7, 7, 0, 1, 2, 3, 4, 5, 6, 7], [7, 8])])
def spec_ParseModel.B15 : List Nat := [0, 1, 0, 4, 12, 28, 60, 127, 255, 511]
theorem spec_ParseModel.tab15 : rtab .any (opsOf Tryd.f4 15) = spec_ParseModel.T15 := by kernel_rfl
theorem spec_ParseModel.bits15 : waitsOk spec_ParseModel.T15.2 spec_ParseModel.B15 = true := by kernel_rfl
def spec_ParseModel.T16 : Bool × List (List Nat × List Nat) := (true, [([], []), ([0], [0]), ([], []), ([2], [2]), ([3], [3]), ([4], [4]), ([5], [5]), ([1, 6, 5], [1, 6]), ([0, 1, 2, 3, 4, 5, 6, 7], []), ([8, 7, 7, 0, 1, 2, 3, 4, 5, 6, 7], [7, 8])])
def spec_ParseModel.B16 : List Nat := [0, 1, 0, 4, 12, 28, 60, 127, 255, 511]
theorem spec_ParseModel.tab16 : rtab .any (opsOf Tryd.f4 16) = spec_ParseModel.T16 := by kernel_rfl
theorem spec_ParseModel.bits16 : waitsOk spec_ParseModel.T16.2 spec_ParseModel.B16 = true := by kernel_rfl
set_option maxHeartbeats 8000000 in
set_option maxRecDepth 100000 in
theorem spec_ParseModel.calls (k : Nat) (a0 : ByteArray) (r1 : Int) (r2 : Int) (r3 : Int) (r4 : List Int) (r5 : List Int) (r6 : List Int) (r7 : Bool) (w : World) (h : spec_ParseModel.f k a0 = some (r1, r2, r3, r4, r5, r6, r7)) :
  Calls Tryd.prog 4 #[.string a0] w fun e w' => ∃ v3_ v4_ v5_ : Value, e = .returned (.tuple #[.agg #[.int .i64 r1, .int .i64 r2, .int .i64 r3, v3_, v4_, v5_], .bool r7]) ∧ Kd.R (Kd.int .i64) 3 w' w.heap.size (fun k_ => some k_ ≠ (v4_ : Value).ownBlock ∧ some k_ ≠ (v5_ : Value).ownBlock) v3_ r4 ∧ Kd.R (Kd.int .i64) 3 w' w.heap.size (fun k_ => some k_ ≠ (v3_ : Value).ownBlock ∧ some k_ ≠ (v5_ : Value).ownBlock) v4_ r5 ∧ Kd.R (Kd.int .i64) 3 w' w.heap.size (fun k_ => some k_ ≠ (v3_ : Value).ownBlock ∧ some k_ ≠ (v4_ : Value).ownBlock) v5_ r6 ∧ Below w.heap.size w w' := by
 have hu26 := Tryd.underlying26
 have hu23 := Tryd.underlying23
 have HB := Aside0.mk (Below.refl w.heap.size w)
 have H : ((spec_l1Split.f k a0 10).bind fun t141 => (if 0 < (t141.length : Int) then ((spec_l1Split.f k (rdOf ByteArray.empty t141 0) 32).bind fun t145 => (if (t141.length : Int) > 122 then (spec_ParseModel.j0 k a0 t141 t145 true) else (spec_ParseModel.j0 k a0 t141 t145 ((t145.length : Int) != 2)))) else (none))) = some (r1, r2, r3, r4, r5, r6, r7) := h
 clear h
 replace H := Option.bind_eq_some_iff.mp H
 obtain ⟨t141, A20, H⟩ := H
 replace H : (if 0 < (t141.length : Int) then ((spec_l1Split.f k (rdOf ByteArray.empty t141 0) 32).bind fun t145 => (if (t141.length : Int) > 122 then (spec_ParseModel.j0 k a0 t141 t145 true) else (spec_ParseModel.j0 k a0 t141 t145 ((t145.length : Int) != 2)))) else (none)) = some (r1, r2, r3, r4, r5, r6, r7) := H
 have A2 := Aside0.mk A20
 clear A20
 by_cases c3 : 0 < (t141.length : Int)
 ·rw [if_pos c3] at H
  have c3b0 : decide (0 < (t141.length : Int)) = true := decide_eq_true c3
  have c3b1 : decide (0 < t141.length) = true := decide_eq_true (by omega)
  clear c3
  replace H := Option.bind_eq_some_iff.mp H
  obtain ⟨t145, A40, H⟩ := H
  replace H : (if (t141.length : Int) > 122 then (spec_ParseModel.j0 k a0 t141 t145 true) else (spec_ParseModel.j0 k a0 t141 t145 ((t145.length : Int) != 2))) = some (r1, r2, r3, r4, r5, r6, r7) := H
  have A4 := Aside0.mk A40
  clear A40
  have HC5 := Aside0.mk H
  clear H
  go_enter Tryd.func4, Tryd.ntmps4
  go_upto_region 3 with (first | ((with_reducible refine gate_dst (N := 2) rfl ?_); (try (refine gate_guard (by rfl) ?_; dsimp only)); refine box_event ?hg (N := 2) ?hd (cs := #[.int .i64 0, .int .i64 0, .int .i64 0, .slice none 0 0, .slice none 0 0, .slice none 0 0]) (t := 26) ?hr ?_; (case hd => rfl); (case hg => rfl); (case hr => first | (go_simp; done) | (go_simp; rfl)); intro gb140 hg w6 hbox hb; have BK140 := Aside0.mk (hbox); have GW140 := gs_ hg HB; have GE140 := gs_ hg HB; replace HB := hbs_ HB hb; clear hb hbox hg) | ((with_reducible refine gate_callee (f := 9) rfl ?_); refine gl_ (some 12) Tryd.func9 #[.string a0, .int .u8 10] rfl rfl rfl ?_; (with_reducible refine (spec_l1Split.calls k a0 10 t141 _ A2.out).mono ?_); rintro e w7 ⟨v142, rfl, ho0, hb⟩; refine ⟨_, rfl, ?_⟩; have HO143 := Kd.R_lo ho0 HB; replace BK140 := kb_ BK140 hb; replace HB := hbs_ HB hb; (try clear hb); (try clear hb2); (try clear hk); (try clear hi); (try clear ho0); obtain ⟨Ao8, co8, eo8⟩ := Kd.R_slice HO143.out; subst eo8; have p144 : 0 ≤ (0 : Int) := (by omega); have q144 : 0 < (t141.length : Int) := of_decide_eq_true (by first | (with_reducible assumption) | assumption); obtain ⟨ad144, e144, hx144_0⟩ := Kd.at_string (Kd.R_reads' HO143.out).2.2 0 p144 q144; cases e144; have qi144 : (0 < t141.length) = True := eq_true (by omega); (try rw [show ((0 : Int)).toNat = 0 from rfl] at hx144_0); (try rw [Addr.add_zero'] at hx144_0); replace p144 := eq_true p144; replace q144 := eq_true q144) | ((with_reducible refine gate_callee (f := 9) rfl ?_); refine gl_ (some 16) Tryd.func9 #[.string (rdOf ByteArray.empty t141 0), .int .u8 32] rfl rfl rfl ?_; (with_reducible refine (spec_l1Split.calls k (rdOf ByteArray.empty t141 0) 32 t145 _ A4.out).mono ?_); rintro e w9 ⟨v146, rfl, ho0, hb⟩; refine ⟨_, rfl, ?_⟩; have HO147 := Kd.R_lo (Kd.R_nw ho0 HO143) HB; replace HO143 := Kd.R_e HO143 ho0 hb; replace BK140 := kb_ BK140 hb; replace HB := hbs_ HB hb; (try clear hb); (try clear hb2); (try clear hk); (try clear hi); (try clear ho0)))
  (try simp only [Act.put, List.setIfInBounds_toArray, List.set_cons_zero, List.set_cons_succ])
  go_cut [24] (fun v24 wc => ∃ (kq : Nat) (x24_4 : Bool), v24 = .bool x24_4 ∧ Aside0 (spec_ParseModel.j0 kq a0 t141 t145 x24_4 = some (r1, r2, r3, r4, r5, r6, r7)) ∧ Aside0 (kq ≤ k) ∧ Aside0 (Kd.R Kd.string 9 wc w.heap.size (fun k_ => some k_ ≠ (v146 : Value).ownBlock) (.slice (some ad144) t141.length co8) t141) ∧ Aside0 (Kd.R Kd.string 9 wc w.heap.size (fun k_ => some k_ ≠ ((.slice (some ad144) t141.length co8) : Value).ownBlock) v146 t145) ∧ Aside0 (wc.heap[gb140]? = some (.cells #[.int .i64 0, .int .i64 0, .int .i64 0, (.slice none 0 0), (.slice none 0 0), (.slice none 0 0)] 26 (0, 0))) ∧ Aside0 (Below w.heap.size w wc))
  case first =>
   have H := HC5.out
   clear HC5
   by_cases c10 : (t141.length : Int) > 122
   ·rw [if_pos c10] at H
    have c10b0 : decide (122 < (t141.length : Int)) = true := decide_eq_true c10
    have c10b1 : decide (122 < t141.length) = true := decide_eq_true (by omega)
    clear c10
    (first | rw [c10b0] | (simp only [i64_w, i32_w]; rw [c10b0]) | skip)
    have H' := Aside0.mk H
    clear H
    go_wp2
    go_meet
    case rel => exact ⟨_, (true), (by first | rfl | (simp; done) | (simp [*]; done)), H', ⟨by first | omega | exact Nat.le_refl _⟩, ⟨Kd.R_pp (Kd.R_mono HO143.out (fun _ hk => hk.2))⟩, ⟨Kd.R_pp (Kd.R_mono HO147.out (fun _ hk => hk.2))⟩, ⟨kp_ BK140⟩, ⟨hb_ HB⟩⟩
   ·rw [if_neg c10] at H
    have c10b0 : decide (122 < (t141.length : Int)) = false := decide_eq_false c10
    have c10b1 : decide (122 < t141.length) = false := decide_eq_false (by omega)
    clear c10
    (first | rw [c10b0] | (simp only [i64_w, i32_w]; rw [c10b0]) | skip)
    have H' := Aside0.mk H
    clear H
    obtain ⟨Ao11, co11, eo11⟩ := Kd.R_slice HO147.out
    subst eo11
    go_wp2
    go_meet
    case rel => exact ⟨_, (((t145.length : Int) != 2)), (by first | rfl | (simp; done) | (simp [*]; done)), H', ⟨by first | omega | exact Nat.le_refl _⟩, ⟨Kd.R_pp (Kd.R_mono HO143.out (fun _ hk => hk.2))⟩, ⟨Kd.R_pp (Kd.R_mono HO147.out (fun _ hk => hk.2))⟩, ⟨kp_ BK140⟩, ⟨hb_ HB⟩⟩
  case rest =>
   clear HC5
   (try clear c1); (try clear p1); (try clear q1); (try clear hx1); (try clear qi1); (try clear p2); (try clear c3); (try clear c3b0); (try clear c3b1); (try clear c4); (try clear c9); (try clear c10); (try clear c10b0); (try clear c10b1); (try clear hx144_0); (try clear p144); (try clear q144)
   obtain ⟨kq, x24_4, rfl, HA, HJ4, HO_4, HO_5, BK140, HB⟩ := hcut
   cases kq with
   | zero => exact absurd HA.out (by simp [spec_ParseModel.j0])
   | succ kj4 =>
    have H := HA.out
    clear HA
    simp only [spec_ParseModel.j0] at H
    by_cases c12 : x24_4 = true
    ·subst c12
     have H1 : (some (0, 0, 0, ([] : List Int), ([] : List Int), ([] : List Int), false)) = some (r1, r2, r3, r4, r5, r6, r7) := by rw [if_pos rfl] at H; exact H
     clear H
     have H := H1
     clear H1
     simp only [Option.some.injEq, Prod.mk.injEq] at H
     obtain ⟨rfl, rfl, rfl, rfl, rfl, rfl, rfl⟩ := H
     have hcz13_0 : wc.cell? ⟨gb140, 0, none⟩ = some (.int .i64 0) := (blk_cell BK140.out 0).trans rfl
     have hcz13_1 : wc.cell? ⟨gb140, 1, none⟩ = some (.int .i64 0) := (blk_cell BK140.out 1).trans rfl
     have hcz13_2 : wc.cell? ⟨gb140, 2, none⟩ = some (.int .i64 0) := (blk_cell BK140.out 2).trans rfl
     have hcz13_3 : wc.cell? ⟨gb140, 3, none⟩ = some (.slice none 0 0) := (blk_cell BK140.out 3).trans rfl
     have hcz13_4 : wc.cell? ⟨gb140, 4, none⟩ = some (.slice none 0 0) := (blk_cell BK140.out 4).trans rfl
     have hcz13_5 : wc.cell? ⟨gb140, 5, none⟩ = some (.slice none 0 0) := (blk_cell BK140.out 5).trans rfl
     have hfz13_0 := blk_frozen BK140.out 0
     have hfz13_1 := blk_frozen BK140.out 1
     have hfz13_2 := blk_frozen BK140.out 2
     have hfz13_3 := blk_frozen BK140.out 3
     have hfz13_4 := blk_frozen BK140.out 4
     have hfz13_5 := blk_frozen BK140.out 5
     go_wp2
     refine bodyPost_ret (results_ct rfl _ _ gb140 26 #[.int .i64 0, .int .i64 0, .int .i64 0, .slice none 0 0, .slice none 0 0, .slice none 0 0] (0, 0) _ rfl (kpq_ (kputs BK140 [(0, _), (1, _), (2, _), (3, _), (4, _), (5, _)])) Tryd.underlying26 rfl (by kernel_rfl)) rfl ?_
     exact ⟨_, _, _, by first | rfl | (simp [errW_none, errW_some] <;> rfl) | (simp [*, errW_none, errW_some] <;> rfl), by first | exact Kd.R_nil _ _ _ _ _ | exact Kd.N_nil _ _ _ _ _ | exact Kd.V_nil _ _ _ _ _ | exact Kd.Q_nil _ _ _ _ _ | exact Kd.S_nil _ _ _ _ _, by first | exact Kd.R_nil _ _ _ _ _ | exact Kd.N_nil _ _ _ _ _ | exact Kd.V_nil _ _ _ _ _ | exact Kd.Q_nil _ _ _ _ _ | exact Kd.S_nil _ _ _ _ _, by first | exact Kd.R_nil _ _ _ _ _ | exact Kd.N_nil _ _ _ _ _ | exact Kd.V_nil _ _ _ _ _ | exact Kd.Q_nil _ _ _ _ _ | exact Kd.S_nil _ _ _ _ _, hb_ HB⟩
    ·replace c12 := Bool.eq_false_iff.mpr c12
     subst c12
     have H1 : (if 1 < (t145.length : Int) then ((spec_l1Split.f kj4 (rdOf ByteArray.empty t145 1) 120).bind fun t149 => (if (t149.length : Int) = 3 then (if 0 < (t149.length : Int) then ((spec_l1Read.f kj4 (rdOf ByteArray.empty t149 0)).bind fun t153 => (if 1 < (t149.length : Int) then ((spec_l1Read.f kj4 (rdOf ByteArray.empty t149 1)).bind fun t155 => (if 2 < (t149.length : Int) then ((spec_l1Read.f kj4 (rdOf ByteArray.empty t149 2)).bind fun t157 => (if 1 ≤ (t141.length : Int) then ((some (t141.drop 1 : List ByteArray)).bind fun y159 => (spec_ParseModel.l0 kj4 a0 y159 (y159.length : Int) 0 t153 t155 t157 ([] : List Int) ([] : List Int) ([] : List Int))) else (none))) else (none))) else (none))) else (none)) else (some (0, 0, 0, ([] : List Int), ([] : List Int), ([] : List Int), false)))) else (none)) = some (r1, r2, r3, r4, r5, r6, r7) := by rw [if_neg (show ¬ (false = true) by decide)] at H; exact H
     clear H
     have H := H1
     clear H1
     by_cases c14 : 1 < (t145.length : Int)
     ·rw [if_pos c14] at H
      have c14b0 : decide (1 < (t145.length : Int)) = true := decide_eq_true c14
      have c14b1 : decide (1 < t145.length) = true := decide_eq_true (by omega)
      clear c14
      replace H := Option.bind_eq_some_iff.mp H
      obtain ⟨t149, A150, H⟩ := H
      replace H : (if (t149.length : Int) = 3 then (if 0 < (t149.length : Int) then ((spec_l1Read.f kj4 (rdOf ByteArray.empty t149 0)).bind fun t153 => (if 1 < (t149.length : Int) then ((spec_l1Read.f kj4 (rdOf ByteArray.empty t149 1)).bind fun t155 => (if 2 < (t149.length : Int) then ((spec_l1Read.f kj4 (rdOf ByteArray.empty t149 2)).bind fun t157 => (if 1 ≤ (t141.length : Int) then ((some (t141.drop 1 : List ByteArray)).bind fun y159 => (spec_ParseModel.l0 kj4 a0 y159 (y159.length : Int) 0 t153 t155 t157 ([] : List Int) ([] : List Int) ([] : List Int))) else (none))) else (none))) else (none))) else (none)) else (some (0, 0, 0, ([] : List Int), ([] : List Int), ([] : List Int), false))) = some (r1, r2, r3, r4, r5, r6, r7) := H
      have A15 := Aside0.mk A150
      clear A150
      by_cases c16 : (t149.length : Int) = 3
      ·rw [if_pos c16] at H
       have c16b0 : ((t149.length : Int) == 3) = true := beq_iff_eq.mpr c16
       have c16b1 : ((t149.length : Int) != 3) = false := bne_eq_false_iff_eq.mpr c16
       clear c16
       by_cases c17 : 0 < (t149.length : Int)
       ·rw [if_pos c17] at H
        have c17b0 : decide (0 < (t149.length : Int)) = true := decide_eq_true c17
        have c17b1 : decide (0 < t149.length) = true := decide_eq_true (by omega)
        clear c17
        replace H := Option.bind_eq_some_iff.mp H
        obtain ⟨t153, A180, H⟩ := H
        replace H : (if 1 < (t149.length : Int) then ((spec_l1Read.f kj4 (rdOf ByteArray.empty t149 1)).bind fun t155 => (if 2 < (t149.length : Int) then ((spec_l1Read.f kj4 (rdOf ByteArray.empty t149 2)).bind fun t157 => (if 1 ≤ (t141.length : Int) then ((some (t141.drop 1 : List ByteArray)).bind fun y159 => (spec_ParseModel.l0 kj4 a0 y159 (y159.length : Int) 0 t153 t155 t157 ([] : List Int) ([] : List Int) ([] : List Int))) else (none))) else (none))) else (none)) = some (r1, r2, r3, r4, r5, r6, r7) := H
        have A18 := Aside0.mk A180
        clear A180
        by_cases c19 : 1 < (t149.length : Int)
        ·rw [if_pos c19] at H
         have c19b0 : decide (1 < (t149.length : Int)) = true := decide_eq_true c19
         have c19b1 : decide (1 < t149.length) = true := decide_eq_true (by omega)
         clear c19
         replace H := Option.bind_eq_some_iff.mp H
         obtain ⟨t155, A200, H⟩ := H
         replace H : (if 2 < (t149.length : Int) then ((spec_l1Read.f kj4 (rdOf ByteArray.empty t149 2)).bind fun t157 => (if 1 ≤ (t141.length : Int) then ((some (t141.drop 1 : List ByteArray)).bind fun y159 => (spec_ParseModel.l0 kj4 a0 y159 (y159.length : Int) 0 t153 t155 t157 ([] : List Int) ([] : List Int) ([] : List Int))) else (none))) else (none)) = some (r1, r2, r3, r4, r5, r6, r7) := H
         have A20 := Aside0.mk A200
         clear A200
         by_cases c21 : 2 < (t149.length : Int)
         ·rw [if_pos c21] at H
          have c21b0 : decide (2 < (t149.length : Int)) = true := decide_eq_true c21
          have c21b1 : decide (2 < t149.length) = true := decide_eq_true (by omega)
          clear c21
          replace H := Option.bind_eq_some_iff.mp H
          obtain ⟨t157, A220, H⟩ := H
          replace H : (if 1 ≤ (t141.length : Int) then ((some (t141.drop 1 : List ByteArray)).bind fun y159 => (spec_ParseModel.l0 kj4 a0 y159 (y159.length : Int) 0 t153 t155 t157 ([] : List Int) ([] : List Int) ([] : List Int))) else (none)) = some (r1, r2, r3, r4, r5, r6, r7) := H
          have A22 := Aside0.mk A220
          clear A220
          by_cases c23 : 1 ≤ (t141.length : Int)
          ·rw [if_pos c23] at H
           have c23b0 := eq_true c23
           have c23b1 : decide (1 ≤ (t141.length : Int)) = true := decide_eq_true c23
           clear c23
           obtain ⟨y159, hy159⟩ : ∃ y_ : List ByteArray, y_ = (t141.drop 1) := ⟨_, rfl⟩
           replace H : (spec_ParseModel.l0 kj4 a0 y159 (y159.length : Int) 0 t153 t155 t157 ([] : List Int) ([] : List Int) ([] : List Int)) = some (r1, r2, r3, r4, r5, r6, r7) := by first | (rw [hy159]; with_reducible exact H) | (have H2_ := (Option.bind_some _ _).symm.trans H; rw [hy159]; with_reducible exact H2_) | (have H2_ := (Option.bind_some _ _).symm.trans H; with_reducible exact H2_) | with_reducible exact H | (rw [hy159]; exact H) | exact H
           have Ny159 := Aside0.mk hy159
           clear hy159
           have H' := Aside0.mk H
           clear H
           obtain ⟨Ao24, co24, eo24⟩ := Kd.R_slice HO_5.out
           subst eo24
           have p148 : 0 ≤ (1 : Int) := (by omega)
           have q148 : 1 < (t145.length : Int) := of_decide_eq_true (by first | (with_reducible assumption) | assumption)
           obtain ⟨ad148, e148, hx148_0⟩ := Kd.at_string (Kd.R_reads' HO_5.out).2.2 1 p148 q148
           cases e148
           (try simp only [show (1 : Int).toNat = 1 from rfl, Nat.reduceMul, Nat.reduceEqDiff, Go.Addr.add, ↓reduceIte] at hx148_0)
           have qi148 : (1 < t145.length) = True := eq_true (by omega)
           (try rw [show ((1 : Int)).toNat = 1 from rfl] at hx148_0)
           replace p148 := eq_true p148
           replace q148 := eq_true q148
           try go_wp2_with (first | ((with_reducible refine gate_callee (f := 9) rfl ?_); refine gl_ (some 29) Tryd.func9 #[.string (rdOf ByteArray.empty t145 1), .int .u8 120] rfl rfl rfl ?_; (with_reducible refine (spec_l1Split.calls kj4 (rdOf ByteArray.empty t145 1) 120 t149 _ A15.out).mono ?_); rintro e w25 ⟨v150, rfl, ho0, hb⟩; refine ⟨_, rfl, ?_⟩; have HO151 := Kd.R_lo (Kd.R_nw (Kd.R_nw ho0 HO_4) HO_5) HB; replace HO_4 := Kd.R_e HO_4 ho0 hb; replace HO_5 := Kd.R_e HO_5 ho0 hb; replace BK140 := kb_ BK140 hb; replace HB := hbs_ HB hb; (try clear hb); (try clear hb2); (try clear hk); (try clear hi); (try clear ho0); obtain ⟨Ao26, co26, eo26⟩ := Kd.R_slice HO151.out; subst eo26))
           have n0_ := Aside0.mk (Kd.R_drew HO_4.out)
           have n1_ := Aside0.mk (Kd.R_drew HO_5.out)
           have n2_ := Aside0.mk (Kd.R_drew HO151.out)
           have n3_ := Aside0.mk (blk_drew BK140.out)
           have n4_ := Aside0.mk (below_drew1 HB.out)
           clear HO_4
           clear HO_5
           clear HO151
           clear BK140
           clear HB
           have HO_4 := n0_
           have HO_5 := n1_
           have HO151 := n2_
           have BK140 := n3_
           have HB := n4_
           clear n0_ n1_ n2_ n3_ n4_
           have p152 : 0 ≤ (0 : Int) := (by omega)
           have q152 : 0 < (t149.length : Int) := of_decide_eq_true (by first | (with_reducible assumption) | assumption)
           obtain ⟨ad152, e152, hx152_0⟩ := Kd.at_string (Kd.R_reads' HO151.out).2.2 0 p152 q152
           cases e152
           have qi152 : (0 < t149.length) = True := eq_true (by omega)
           (try rw [show ((0 : Int)).toNat = 0 from rfl] at hx152_0)
           (try rw [Addr.add_zero'] at hx152_0)
           replace p152 := eq_true p152
           replace q152 := eq_true q152
           have p154 : 0 ≤ (1 : Int) := (by omega)
           have q154 : 1 < (t149.length : Int) := of_decide_eq_true (by first | (with_reducible assumption) | assumption)
           obtain ⟨ad154, e154, hx154_0⟩ := Kd.at_string (Kd.R_reads' HO151.out).2.2 1 p154 q154
           obtain rfl : ad152 = ad154 := (by injection e154)
           (try simp only [show (1 : Int).toNat = 1 from rfl, Nat.reduceMul, Nat.reduceEqDiff, Go.Addr.add, ↓reduceIte] at hx154_0)
           have qi154 : (1 < t149.length) = True := eq_true (by omega)
           (try rw [show ((1 : Int)).toNat = 1 from rfl] at hx154_0)
           replace p154 := eq_true p154
           replace q154 := eq_true q154
           have p156 : 0 ≤ (2 : Int) := (by omega)
           have q156 : 2 < (t149.length : Int) := of_decide_eq_true (by first | (with_reducible assumption) | assumption)
           obtain ⟨ad156, e156, hx156_0⟩ := Kd.at_string (Kd.R_reads' HO151.out).2.2 2 p156 q156
           obtain rfl : ad152 = ad156 := (by injection e156)
           (try simp only [show (2 : Int).toNat = 2 from rfl, Nat.reduceMul, Nat.reduceEqDiff, Go.Addr.add, ↓reduceIte] at hx156_0)
           have qi156 : (2 < t149.length) = True := eq_true (by omega)
           (try rw [show ((2 : Int)).toNat = 2 from rfl] at hx156_0)
           replace p156 := eq_true p156
           replace q156 := eq_true q156
           refine start_ (n := 16) (S := fun w' => w'.cell? ad152 = some (.string (rdOf ByteArray.empty t149 0)) ∧ w'.cell? ⟨ad152.block, ad152.off + 1, none⟩ = some (.string (rdOf ByteArray.empty t149 1)) ∧ w'.cell? ⟨ad152.block, ad152.off + 2, none⟩ = some (.string (rdOf ByteArray.empty t149 2))) (ds := []) #[false, false, false, false, false, false, false, false, false, false, false, false, false, false, false, false] (by kernel_rfl) rfl rfl ⟨hx152_0, hx154_0, hx156_0⟩ (fun hHeld => ?_); refine with_tabW spec_ParseModel.tab8 spec_ParseModel.bits8 (fun HT_ HW_ => ?_)
           generalize w25.drew = w27 at HO_4 HO_5 HO151 BK140 HB hx152_0 hx154_0 hx156_0 hHeld ⊢
           refine pure_ (i := 0) (N := some 34) (v := ?_) (a' := ?_) #[true, false, false, false, false, false, false, false, false, false, false, false, false, false, false, false] rfl rfl (any_of HT_.out (by kernel_rfl)) (fun _ _ _ h => h) (Or.inl ⟨by rfl, ?_⟩) ?_ ?_
           rotate_left
           ·intro w'
            go_simp
            with_reducible rfl
           rotate_left
           ·simp only [Act.put, List.setIfInBounds_toArray, List.set_cons_zero, List.set_cons_succ, i64_w, i32_w]
            rfl
           refine pure_ (i := 1) (N := some 35) (v := ?_) (a' := ?_) #[true, true, false, false, false, false, false, false, false, false, false, false, false, false, false, false] rfl rfl (any_of HT_.out (by kernel_rfl)) (fun _ _ _ h => h) (Or.inl ⟨by rfl, ?_⟩) ?_ ?_
           rotate_left
           ·intro w'
            go_simp
            with_reducible rfl
           rotate_left
           ·simp only [Act.put, List.setIfInBounds_toArray, List.set_cons_zero, List.set_cons_succ, i64_w, i32_w]
            rfl
           refine pure_ (i := 4) (N := some 38) (v := ?_) (a' := ?_) #[true, true, false, false, true, false, false, false, false, false, false, false, false, false, false, false] rfl rfl (any_of HT_.out (by kernel_rfl)) (fun _ _ _ h => h) (Or.inl ⟨by rfl, ?_⟩) ?_ ?_
           rotate_left
           ·intro w'
            go_simp
            with_reducible rfl
           rotate_left
           ·simp only [Act.put, List.setIfInBounds_toArray, List.set_cons_zero, List.set_cons_succ, i64_w, i32_w]
            rfl
           refine pure_ (i := 5) (N := some 39) (v := ?_) (a' := ?_) #[true, true, false, false, true, true, false, false, false, false, false, false, false, false, false, false] rfl rfl (any_of HT_.out (by kernel_rfl)) (fun _ _ _ h => h) (Or.inl ⟨by rfl, ?_⟩) ?_ ?_
           rotate_left
           ·intro w'
            go_simp
            with_reducible rfl
           rotate_left
           ·simp only [Act.put, List.setIfInBounds_toArray, List.set_cons_zero, List.set_cons_succ, i64_w, i32_w]
            rfl
           refine pure_ (i := 8) (N := some 42) (v := ?_) (a' := ?_) #[true, true, false, false, true, true, false, false, true, false, false, false, false, false, false, false] rfl rfl (any_of HT_.out (by kernel_rfl)) (fun _ _ _ h => h) (Or.inl ⟨by rfl, ?_⟩) ?_ ?_
           rotate_left
           ·intro w'
            go_simp
            with_reducible rfl
           rotate_left
           ·simp only [Act.put, List.setIfInBounds_toArray, List.set_cons_zero, List.set_cons_succ, i64_w, i32_w]
            rfl
           refine pure_ (i := 9) (N := some 43) (v := ?_) (a' := ?_) #[true, true, false, false, true, true, false, false, true, true, false, false, false, false, false, false] rfl rfl (any_of HT_.out (by kernel_rfl)) (fun _ _ _ h => h) (Or.inl ⟨by rfl, ?_⟩) ?_ ?_
           rotate_left
           ·intro w'
            go_simp
            with_reducible rfl
           rotate_left
           ·simp only [Act.put, List.setIfInBounds_toArray, List.set_cons_zero, List.set_cons_succ, i64_w, i32_w]
            rfl
           refine take_ (i := 2) (N := some 36) (v := ?_) (a' := ?_) #[true, true, true, false, true, true, false, false, true, true, false, false, false, false, false, false] rfl rfl (take_ofW HT_.out HW_.out (by kernel_rfl)) (fun _ _ _ h => h) (Or.inl ⟨by rfl, ?_⟩) hHeld ?_ ?_
           rotate_left
           ·rintro w' ⟨s0, s1, s2⟩
            go_simp
            with_reducible rfl
           rotate_left
           ·simp only [Act.put, List.setIfInBounds_toArray, List.set_cons_zero, List.set_cons_succ, i64_w, i32_w]
            rfl
           refine take_ (i := 6) (N := some 40) (v := ?_) (a' := ?_) #[true, true, true, false, true, true, true, false, true, true, false, false, false, false, false, false] rfl rfl (take_ofW HT_.out HW_.out (by kernel_rfl)) (fun _ _ _ h => h) (Or.inl ⟨by rfl, ?_⟩) hHeld ?_ ?_
           rotate_left
           ·rintro w' ⟨s0, s1, s2⟩
            go_simp
            with_reducible rfl
           rotate_left
           ·simp only [Act.put, List.setIfInBounds_toArray, List.set_cons_zero, List.set_cons_succ, i64_w, i32_w]
            rfl
           refine take_ (i := 10) (N := some 44) (v := ?_) (a' := ?_) #[true, true, true, false, true, true, true, false, true, true, true, false, false, false, false, false] rfl rfl (take_ofW HT_.out HW_.out (by kernel_rfl)) (fun _ _ _ h => h) (Or.inl ⟨by rfl, ?_⟩) hHeld ?_ ?_
           rotate_left
           ·rintro w' ⟨s0, s1, s2⟩
            go_simp
            with_reducible rfl
           rotate_left
           ·simp only [Act.put, List.setIfInBounds_toArray, List.set_cons_zero, List.set_cons_succ, i64_w, i32_w]
            rfl
           refine join_ (σ := Nat) 1 #[true, true, true, true, true, true, true, true, true, true, true, true, true, true, true, false] (fun s_ => [(37, .int .i64 t153), (41, .int .i64 t155), (45, .int .i64 t157), (7, .pointer (some ⟨s_, 0, none⟩)), (46, .agg #[.int .i64 t153, .int .i64 t155, .int .i64 t157]), (47, .agg #[.int .i64 t153, .int .i64 t155, .int .i64 t157, .slice none 0 0, .slice none 0 0, .slice none 0 0])]) (fun s_ w' => (w'.cell? ad152 = some (.string (rdOf ByteArray.empty t149 0)) ∧ w'.cell? ⟨ad152.block, ad152.off + 1, none⟩ = some (.string (rdOf ByteArray.empty t149 1)) ∧ w'.cell? ⟨ad152.block, ad152.off + 2, none⟩ = some (.string (rdOf ByteArray.empty t149 2))) ∧ (Kd.R Kd.string 9 w' w.heap.size (fun k_ => some k_ ≠ (.slice (some ad144) t141.length co8 : Value).ownBlock ∧ some k_ ≠ (.slice (some ad148) t145.length co24 : Value).ownBlock) (.slice (some ad152) t149.length co26) t149) ∧ (Kd.R Kd.string 9 w' w.heap.size (fun k_ => some k_ ≠ (.slice (some ad152) t149.length co26 : Value).ownBlock ∧ some k_ ≠ (.slice (some ad148) t145.length co24 : Value).ownBlock) (.slice (some ad144) t141.length co8) t141) ∧ (Kd.R Kd.string 9 w' w.heap.size (fun k_ => some k_ ≠ (.slice (some ad152) t149.length co26 : Value).ownBlock ∧ some k_ ≠ (.slice (some ad144) t141.length co8 : Value).ownBlock) (.slice (some ad148) t145.length co24) t145) ∧ (w'.heap[gb140]? = some (.cells #[.int .i64 0, .int .i64 0, .int .i64 0, .slice none 0 0, .slice none 0 0, .slice none 0 0] 26 (0, 0))) ∧ (w'.heap[s_]? = some (.cells #[.int .i64 0, .int .i64 0, .int .i64 0, .slice none 0 0, .slice none 0 0, .slice none 0 0] 26 (0, 0))) ∧ (w.heap.size ≤ s_) ∧ (w.heap.size ≤ s_) ∧ (gb140 ≠ s_) ∧ (s_ ≠ gb140) ∧ (Below w.heap.size w w')) ?_ ?_
           rotate_left
           ·intro hCont
            refine two_ (i := 3) (j := 14) (Ni := some 37) (Nj := some 7) #[true, true, true, true, true, true, true, false, true, true, true, false, false, false, false, false] #[true, true, true, false, true, true, true, false, true, true, true, false, false, false, true, false] rfl rfl rfl rfl (two_of HT_.out (by kernel_rfl)) (by decide) (by decide) (fun K hK => ?_) (fun K hK => ?_)
            ·skip
             refine goes_ Tryd.func10 (by kernel_rfl) rfl #[.string (rdOf ByteArray.empty t149 0)] (by rfl) rfl rfl (by (try simp only [List.map_toArray, List.map_cons, List.map_nil]); first | done | rfl | (simp only [List.length_drop, List.length_take]; rfl)) ?_
             with_reducible refine (spec_l1Read.calls kj4 (rdOf ByteArray.empty t149 0) t153 _ A18.out).mono ?_
             rintro e w' ⟨rfl, ⟨nd, rfl⟩⟩
             refine ⟨_, rfl, ?_⟩
             refine hK.out _ _ ⟨hHeld.1, hHeld.2.1, hHeld.2.2⟩ (fun hHeld => ?_)
             clear hK K
             refine norm_ (a' := ?_) ?_ ?_
             rotate_left
             ·show Act.put _ (some 37) _ = _
              simp only [Act.put, List.setIfInBounds_toArray, List.set_cons_zero, List.set_cons_succ, i64_w, i32_w]
              rfl
             refine two_ (i := 7) (j := 14) (Ni := some 41) (Nj := some 7) #[true, true, true, true, true, true, true, true, true, true, true, false, false, false, false, false] #[true, true, true, true, true, true, true, false, true, true, true, false, false, false, true, false] rfl rfl rfl rfl (two_of HT_.out (by kernel_rfl)) (by decide) (by decide) (fun K hK => ?_) (fun K hK => ?_)
             ·skip
              refine goes_ Tryd.func10 (by kernel_rfl) rfl #[.string (rdOf ByteArray.empty t149 1)] (by rfl) rfl rfl (by (try simp only [List.map_toArray, List.map_cons, List.map_nil]); first | done | rfl | (simp only [List.length_drop, List.length_take]; rfl)) ?_
              with_reducible refine (spec_l1Read.calls kj4 (rdOf ByteArray.empty t149 1) t155 _ A20.out).mono ?_
              rintro e w' ⟨rfl, ⟨nd, rfl⟩⟩
              refine ⟨_, rfl, ?_⟩
              refine hK.out _ _ ⟨hHeld.1, hHeld.2.1, hHeld.2.2⟩ (fun hHeld => ?_)
              clear hK K
              refine norm_ (a' := ?_) ?_ ?_
              rotate_left
              ·show Act.put _ (some 41) _ = _
               simp only [Act.put, List.setIfInBounds_toArray, List.set_cons_zero, List.set_cons_succ, i64_w, i32_w]
               rfl
              refine two_ (i := 11) (j := 14) (Ni := some 45) (Nj := some 7) #[true, true, true, true, true, true, true, true, true, true, true, true, false, false, false, false] #[true, true, true, true, true, true, true, true, true, true, true, false, false, false, true, false] rfl rfl rfl rfl (two_of HT_.out (by kernel_rfl)) (by decide) (by decide) (fun K hK => ?_) (fun K hK => ?_)
              ·skip
               refine goes_ Tryd.func10 (by kernel_rfl) rfl #[.string (rdOf ByteArray.empty t149 2)] (by rfl) rfl rfl (by (try simp only [List.map_toArray, List.map_cons, List.map_nil]); first | done | rfl | (simp only [List.length_drop, List.length_take]; rfl)) ?_
               with_reducible refine (spec_l1Read.calls kj4 (rdOf ByteArray.empty t149 2) t157 _ A22.out).mono ?_
               rintro e w' ⟨rfl, ⟨nd, rfl⟩⟩
               refine ⟨_, rfl, ?_⟩
               refine hK.out _ _ ⟨hHeld.1, hHeld.2.1, hHeld.2.2⟩ (fun hHeld => ?_)
               clear hK K
               refine norm_ (a' := ?_) ?_ ?_
               rotate_left
               ·show Act.put _ (some 45) _ = _
                simp only [Act.put, List.setIfInBounds_toArray, List.set_cons_zero, List.set_cons_succ, i64_w, i32_w]
                rfl
               refine pure_ (i := 12) (N := some 46) (v := ?_) (a' := ?_) #[true, true, true, true, true, true, true, true, true, true, true, true, true, false, false, false] rfl rfl (any_of HT_.out (by kernel_rfl)) (fun _ _ _ h => h) (Or.inl ⟨by rfl, ?_⟩) ?_ ?_
               rotate_left
               ·intro w'
                go_simp
                with_reducible rfl
               rotate_left
               ·simp only [Act.put, List.setIfInBounds_toArray, List.set_cons_zero, List.set_cons_succ, i64_w, i32_w]
                rfl
               refine pure_ (i := 13) (N := some 47) (v := ?_) (a' := ?_) #[true, true, true, true, true, true, true, true, true, true, true, true, true, true, false, false] rfl rfl (any_of HT_.out (by kernel_rfl)) (fun _ _ _ h => h) (Or.inl ⟨by rfl, ?_⟩) ?_ ?_
               rotate_left
               ·intro w'
                go_simp
                with_reducible rfl
               rotate_left
               ·simp only [Act.put, List.setIfInBounds_toArray, List.set_cons_zero, List.set_cons_succ, i64_w, i32_w]
                rfl
               refine one_ (i := 14) (N := some 7) #[true, true, true, true, true, true, true, true, true, true, true, true, true, true, true, false] rfl rfl (one_of HT_.out (by kernel_rfl)) (by decide) (fun K hK => ?_)
               refine box_step ?hg (N := 7) ?hd (cs := #[.int .i64 0, .int .i64 0, .int .i64 0, .slice none 0 0, .slice none 0 0, .slice none 0 0]) (t := 26) ?hr ?_; (case hd => rfl); (case hg => rfl); (case hr => first | (go_simp; done) | (go_simp; rfl))
               intro gb158 hg w28 hbox hb
               have HS0_ := (hb.cell (World.block_lt_of_cell? _ _ (hHeld.1))).trans (hHeld.1)
               have HS1_ := (hb.cell (World.block_lt_of_cell? _ _ (hHeld.2.1))).trans (hHeld.2.1)
               have HS2_ := (hb.cell (World.block_lt_of_cell? _ _ (hHeld.2.2))).trans (hHeld.2.2)
               have n0_ := Aside0.mk (Kd.R_below (Kd.R_p HO_4) hb)
               have n1_ := Aside0.mk (Kd.R_below (Kd.R_p HO_5) hb)
               have n2_ := Aside0.mk (Kd.R_below (Kd.R_p HO151) hb)
               have n3_ := Aside0.mk (blk_below (kp_ BK140) hb)
               have n4_ := Aside0.mk (below_step (hb_ HB) hb)
               have n5_ := Aside0.mk (hbox)
               have n6_ := Aside0.mk ((by rw [hg]; exact (below_size (hb_ HB)) : w.heap.size ≤ gb158))
               have n7_ := Aside0.mk ((by rw [hg]; exact (below_size (hb_ HB)) : w.heap.size ≤ gb158))
               have n8_ := Aside0.mk ((by rw [hg]; exact Nat.ne_of_lt (blk_lt (kp_ BK140)) : gb140 ≠ gb158))
               have n9_ := Aside0.mk ((by rw [hg]; exact Nat.ne_of_gt (blk_lt (kp_ BK140)) : gb158 ≠ gb140))
               clear HO_4
               clear HO_5
               clear HO151
               clear BK140
               clear HB
               have HO_4 := n0_
               have HO_5 := n1_
               have HO151 := n2_
               have BK140 := n3_
               have HB := n4_
               have BK158 := n5_
               have GW158 := n6_
               have GE158 := n7_
               have NB140_158 := n8_
               have NB158_140 := n9_
               clear n0_ n1_ n2_ n3_ n4_ n5_ n6_ n7_ n8_ n9_
               clear hb hbox hg
               refine hK.out _ _ ⟨HS0_, HS1_, HS2_⟩ (fun hHeld => ?_)
               clear hK K
               refine norm_ (a' := ?_) ?_ ?_
               rotate_left
               ·show Act.put _ (some 7) _ = _
                simp only [Act.put, List.setIfInBounds_toArray, List.set_cons_zero, List.set_cons_succ, i64_w, i32_w]
                rfl
               exact norm_ (by simp only [putAll, Act.put, List.setIfInBounds_toArray, List.set_cons_zero, List.set_cons_succ]) (hCont (gb158) _ ⟨hHeld, (Kd.R_pp (Kd.R_mono HO151.out (fun _ hk => ⟨hk.1.2, hk.2⟩))), (Kd.R_pp (Kd.R_mono HO_4.out (fun _ hk => ⟨hk.2, hk.1⟩))), (Kd.R_pp (Kd.R_mono HO_5.out (fun _ hk => ⟨hk.2, hk.1⟩))), (kp_ BK140), (kp_ BK158), GW158.out, GE158.out, NB140_158.out, NB158_140.out, (hb_ HB)⟩)
              ·skip
               refine box_step ?hg (N := 7) ?hd (cs := #[.int .i64 0, .int .i64 0, .int .i64 0, .slice none 0 0, .slice none 0 0, .slice none 0 0]) (t := 26) ?hr ?_; (case hd => rfl); (case hg => rfl); (case hr => first | (go_simp; done) | (go_simp; rfl))
               intro gb158 hg w28 hbox hb
               have HS0_ := (hb.cell (World.block_lt_of_cell? _ _ (hHeld.1))).trans (hHeld.1)
               have HS1_ := (hb.cell (World.block_lt_of_cell? _ _ (hHeld.2.1))).trans (hHeld.2.1)
               have HS2_ := (hb.cell (World.block_lt_of_cell? _ _ (hHeld.2.2))).trans (hHeld.2.2)
               have n0_ := Aside0.mk (Kd.R_below (Kd.R_p HO_4) hb)
               have n1_ := Aside0.mk (Kd.R_below (Kd.R_p HO_5) hb)
               have n2_ := Aside0.mk (Kd.R_below (Kd.R_p HO151) hb)
               have n3_ := Aside0.mk (blk_below (kp_ BK140) hb)
               have n4_ := Aside0.mk (below_step (hb_ HB) hb)
               have n5_ := Aside0.mk (hbox)
               have n6_ := Aside0.mk ((by rw [hg]; exact (below_size (hb_ HB)) : w.heap.size ≤ gb158))
               have n7_ := Aside0.mk ((by rw [hg]; exact (below_size (hb_ HB)) : w.heap.size ≤ gb158))
               have n8_ := Aside0.mk ((by rw [hg]; exact Nat.ne_of_lt (blk_lt (kp_ BK140)) : gb140 ≠ gb158))
               have n9_ := Aside0.mk ((by rw [hg]; exact Nat.ne_of_gt (blk_lt (kp_ BK140)) : gb158 ≠ gb140))
               clear HO_4
               clear HO_5
               clear HO151
               clear BK140
               clear HB
               have HO_4 := n0_
               have HO_5 := n1_
               have HO151 := n2_
               have BK140 := n3_
               have HB := n4_
               have BK158 := n5_
               have GW158 := n6_
               have GE158 := n7_
               have NB140_158 := n8_
               have NB158_140 := n9_
               clear n0_ n1_ n2_ n3_ n4_ n5_ n6_ n7_ n8_ n9_
               clear hb hbox hg
               refine hK.out _ _ ⟨HS0_, HS1_, HS2_⟩ (fun hHeld => ?_)
               clear hK K
               refine norm_ (a' := ?_) ?_ ?_
               rotate_left
               ·show Act.put _ (some 7) _ = _
                simp only [Act.put, List.setIfInBounds_toArray, List.set_cons_zero, List.set_cons_succ, i64_w, i32_w]
                rfl
               refine one_ (i := 11) (N := some 45) #[true, true, true, true, true, true, true, true, true, true, true, true, false, false, true, false] rfl rfl (one_of HT_.out (by kernel_rfl)) (by decide) (fun K hK => ?_)
               refine goes_ Tryd.func10 (by kernel_rfl) rfl #[.string (rdOf ByteArray.empty t149 2)] (by rfl) rfl rfl (by (try simp only [List.map_toArray, List.map_cons, List.map_nil]); first | done | rfl | (simp only [List.length_drop, List.length_take]; rfl)) ?_
               with_reducible refine (spec_l1Read.calls kj4 (rdOf ByteArray.empty t149 2) t157 _ A22.out).mono ?_
               rintro e w' ⟨rfl, ⟨nd, rfl⟩⟩
               refine ⟨_, rfl, ?_⟩
               refine hK.out _ _ ⟨hHeld.1, hHeld.2.1, hHeld.2.2⟩ (fun hHeld => ?_)
               clear hK K
               refine norm_ (a' := ?_) ?_ ?_
               rotate_left
               ·show Act.put _ (some 45) _ = _
                simp only [Act.put, List.setIfInBounds_toArray, List.set_cons_zero, List.set_cons_succ, i64_w, i32_w]
                rfl
               refine pure_ (i := 12) (N := some 46) (v := ?_) (a' := ?_) #[true, true, true, true, true, true, true, true, true, true, true, true, true, false, true, false] rfl rfl (any_of HT_.out (by kernel_rfl)) (fun _ _ _ h => h) (Or.inl ⟨by rfl, ?_⟩) ?_ ?_
               rotate_left
               ·intro w'
                go_simp
                with_reducible rfl
               rotate_left
               ·simp only [Act.put, List.setIfInBounds_toArray, List.set_cons_zero, List.set_cons_succ, i64_w, i32_w]
                rfl
               refine pure_ (i := 13) (N := some 47) (v := ?_) (a' := ?_) #[true, true, true, true, true, true, true, true, true, true, true, true, true, true, true, false] rfl rfl (any_of HT_.out (by kernel_rfl)) (fun _ _ _ h => h) (Or.inl ⟨by rfl, ?_⟩) ?_ ?_
               rotate_left
               ·intro w'
                go_simp
                with_reducible rfl
               rotate_left
               ·simp only [Act.put, List.setIfInBounds_toArray, List.set_cons_zero, List.set_cons_succ, i64_w, i32_w]
                rfl
               exact norm_ (by simp only [putAll, Act.put, List.setIfInBounds_toArray, List.set_cons_zero, List.set_cons_succ]) (hCont (gb158) _ ⟨hHeld, (Kd.R_pp (Kd.R_mono HO151.out (fun _ hk => ⟨hk.1.2, hk.2⟩))), (Kd.R_pp (Kd.R_mono HO_4.out (fun _ hk => ⟨hk.2, hk.1⟩))), (Kd.R_pp (Kd.R_mono HO_5.out (fun _ hk => ⟨hk.2, hk.1⟩))), (kp_ BK140), (kp_ BK158), GW158.out, GE158.out, NB140_158.out, NB158_140.out, (hb_ HB)⟩)
             ·skip
              refine box_step ?hg (N := 7) ?hd (cs := #[.int .i64 0, .int .i64 0, .int .i64 0, .slice none 0 0, .slice none 0 0, .slice none 0 0]) (t := 26) ?hr ?_; (case hd => rfl); (case hg => rfl); (case hr => first | (go_simp; done) | (go_simp; rfl))
              intro gb158 hg w28 hbox hb
              have HS0_ := (hb.cell (World.block_lt_of_cell? _ _ (hHeld.1))).trans (hHeld.1)
              have HS1_ := (hb.cell (World.block_lt_of_cell? _ _ (hHeld.2.1))).trans (hHeld.2.1)
              have HS2_ := (hb.cell (World.block_lt_of_cell? _ _ (hHeld.2.2))).trans (hHeld.2.2)
              have n0_ := Aside0.mk (Kd.R_below (Kd.R_p HO_4) hb)
              have n1_ := Aside0.mk (Kd.R_below (Kd.R_p HO_5) hb)
              have n2_ := Aside0.mk (Kd.R_below (Kd.R_p HO151) hb)
              have n3_ := Aside0.mk (blk_below (kp_ BK140) hb)
              have n4_ := Aside0.mk (below_step (hb_ HB) hb)
              have n5_ := Aside0.mk (hbox)
              have n6_ := Aside0.mk ((by rw [hg]; exact (below_size (hb_ HB)) : w.heap.size ≤ gb158))
              have n7_ := Aside0.mk ((by rw [hg]; exact (below_size (hb_ HB)) : w.heap.size ≤ gb158))
              have n8_ := Aside0.mk ((by rw [hg]; exact Nat.ne_of_lt (blk_lt (kp_ BK140)) : gb140 ≠ gb158))
              have n9_ := Aside0.mk ((by rw [hg]; exact Nat.ne_of_gt (blk_lt (kp_ BK140)) : gb158 ≠ gb140))
              clear HO_4
              clear HO_5
              clear HO151
              clear BK140
              clear HB
              have HO_4 := n0_
              have HO_5 := n1_
              have HO151 := n2_
              have BK140 := n3_
              have HB := n4_
              have BK158 := n5_
              have GW158 := n6_
              have GE158 := n7_
              have NB140_158 := n8_
              have NB158_140 := n9_
              clear n0_ n1_ n2_ n3_ n4_ n5_ n6_ n7_ n8_ n9_
              clear hb hbox hg
              refine hK.out _ _ ⟨HS0_, HS1_, HS2_⟩ (fun hHeld => ?_)
              clear hK K
              refine norm_ (a' := ?_) ?_ ?_
              rotate_left
              ·show Act.put _ (some 7) _ = _
               simp only [Act.put, List.setIfInBounds_toArray, List.set_cons_zero, List.set_cons_succ, i64_w, i32_w]
               rfl
              refine one_ (i := 7) (N := some 41) #[true, true, true, true, true, true, true, true, true, true, true, false, false, false, true, false] rfl rfl (one_of HT_.out (by kernel_rfl)) (by decide) (fun K hK => ?_)
              refine goes_ Tryd.func10 (by kernel_rfl) rfl #[.string (rdOf ByteArray.empty t149 1)] (by rfl) rfl rfl (by (try simp only [List.map_toArray, List.map_cons, List.map_nil]); first | done | rfl | (simp only [List.length_drop, List.length_take]; rfl)) ?_
              with_reducible refine (spec_l1Read.calls kj4 (rdOf ByteArray.empty t149 1) t155 _ A20.out).mono ?_
              rintro e w' ⟨rfl, ⟨nd, rfl⟩⟩
              refine ⟨_, rfl, ?_⟩
              refine hK.out _ _ ⟨hHeld.1, hHeld.2.1, hHeld.2.2⟩ (fun hHeld => ?_)
              clear hK K
              refine norm_ (a' := ?_) ?_ ?_
              rotate_left
              ·show Act.put _ (some 41) _ = _
               simp only [Act.put, List.setIfInBounds_toArray, List.set_cons_zero, List.set_cons_succ, i64_w, i32_w]
               rfl
              refine one_ (i := 11) (N := some 45) #[true, true, true, true, true, true, true, true, true, true, true, true, false, false, true, false] rfl rfl (one_of HT_.out (by kernel_rfl)) (by decide) (fun K hK => ?_)
              refine goes_ Tryd.func10 (by kernel_rfl) rfl #[.string (rdOf ByteArray.empty t149 2)] (by rfl) rfl rfl (by (try simp only [List.map_toArray, List.map_cons, List.map_nil]); first | done | rfl | (simp only [List.length_drop, List.length_take]; rfl)) ?_
              with_reducible refine (spec_l1Read.calls kj4 (rdOf ByteArray.empty t149 2) t157 _ A22.out).mono ?_
              rintro e w' ⟨rfl, ⟨nd, rfl⟩⟩
              refine ⟨_, rfl, ?_⟩
              refine hK.out _ _ ⟨hHeld.1, hHeld.2.1, hHeld.2.2⟩ (fun hHeld => ?_)
              clear hK K
              refine norm_ (a' := ?_) ?_ ?_
              rotate_left
              ·show Act.put _ (some 45) _ = _
               simp only [Act.put, List.setIfInBounds_toArray, List.set_cons_zero, List.set_cons_succ, i64_w, i32_w]
               rfl
              refine pure_ (i := 12) (N := some 46) (v := ?_) (a' := ?_) #[true, true, true, true, true, true, true, true, true, true, true, true, true, false, true, false] rfl rfl (any_of HT_.out (by kernel_rfl)) (fun _ _ _ h => h) (Or.inl ⟨by rfl, ?_⟩) ?_ ?_
              rotate_left
              ·intro w'
               go_simp
               with_reducible rfl
              rotate_left
              ·simp only [Act.put, List.setIfInBounds_toArray, List.set_cons_zero, List.set_cons_succ, i64_w, i32_w]
               rfl
              refine pure_ (i := 13) (N := some 47) (v := ?_) (a' := ?_) #[true, true, true, true, true, true, true, true, true, true, true, true, true, true, true, false] rfl rfl (any_of HT_.out (by kernel_rfl)) (fun _ _ _ h => h) (Or.inl ⟨by rfl, ?_⟩) ?_ ?_
              rotate_left
              ·intro w'
               go_simp
               with_reducible rfl
              rotate_left
              ·simp only [Act.put, List.setIfInBounds_toArray, List.set_cons_zero, List.set_cons_succ, i64_w, i32_w]
               rfl
              exact norm_ (by simp only [putAll, Act.put, List.setIfInBounds_toArray, List.set_cons_zero, List.set_cons_succ]) (hCont (gb158) _ ⟨hHeld, (Kd.R_pp (Kd.R_mono HO151.out (fun _ hk => ⟨hk.1.2, hk.2⟩))), (Kd.R_pp (Kd.R_mono HO_4.out (fun _ hk => ⟨hk.2, hk.1⟩))), (Kd.R_pp (Kd.R_mono HO_5.out (fun _ hk => ⟨hk.2, hk.1⟩))), (kp_ BK140), (kp_ BK158), GW158.out, GE158.out, NB140_158.out, NB158_140.out, (hb_ HB)⟩)
            ·skip
             refine box_step ?hg (N := 7) ?hd (cs := #[.int .i64 0, .int .i64 0, .int .i64 0, .slice none 0 0, .slice none 0 0, .slice none 0 0]) (t := 26) ?hr ?_; (case hd => rfl); (case hg => rfl); (case hr => first | (go_simp; done) | (go_simp; rfl))
             intro gb158 hg w28 hbox hb
             have HS0_ := (hb.cell (World.block_lt_of_cell? _ _ (hHeld.1))).trans (hHeld.1)
             have HS1_ := (hb.cell (World.block_lt_of_cell? _ _ (hHeld.2.1))).trans (hHeld.2.1)
             have HS2_ := (hb.cell (World.block_lt_of_cell? _ _ (hHeld.2.2))).trans (hHeld.2.2)
             have n0_ := Aside0.mk (Kd.R_below (Kd.R_p HO_4) hb)
             have n1_ := Aside0.mk (Kd.R_below (Kd.R_p HO_5) hb)
             have n2_ := Aside0.mk (Kd.R_below (Kd.R_p HO151) hb)
             have n3_ := Aside0.mk (blk_below (kp_ BK140) hb)
             have n4_ := Aside0.mk (below_step (hb_ HB) hb)
             have n5_ := Aside0.mk (hbox)
             have n6_ := Aside0.mk ((by rw [hg]; exact (below_size (hb_ HB)) : w.heap.size ≤ gb158))
             have n7_ := Aside0.mk ((by rw [hg]; exact (below_size (hb_ HB)) : w.heap.size ≤ gb158))
             have n8_ := Aside0.mk ((by rw [hg]; exact Nat.ne_of_lt (blk_lt (kp_ BK140)) : gb140 ≠ gb158))
             have n9_ := Aside0.mk ((by rw [hg]; exact Nat.ne_of_gt (blk_lt (kp_ BK140)) : gb158 ≠ gb140))
             clear HO_4
             clear HO_5
             clear HO151
             clear BK140
             clear HB
             have HO_4 := n0_
             have HO_5 := n1_
             have HO151 := n2_
             have BK140 := n3_
             have HB := n4_
             have BK158 := n5_
             have GW158 := n6_
             have GE158 := n7_
             have NB140_158 := n8_
             have NB158_140 := n9_
             clear n0_ n1_ n2_ n3_ n4_ n5_ n6_ n7_ n8_ n9_
             clear hb hbox hg
             refine hK.out _ _ ⟨HS0_, HS1_, HS2_⟩ (fun hHeld => ?_)
             clear hK K
             refine norm_ (a' := ?_) ?_ ?_
             rotate_left
             ·show Act.put _ (some 7) _ = _
              simp only [Act.put, List.setIfInBounds_toArray, List.set_cons_zero, List.set_cons_succ, i64_w, i32_w]
              rfl
             refine one_ (i := 3) (N := some 37) #[true, true, true, true, true, true, true, false, true, true, true, false, false, false, true, false] rfl rfl (one_of HT_.out (by kernel_rfl)) (by decide) (fun K hK => ?_)
             refine goes_ Tryd.func10 (by kernel_rfl) rfl #[.string (rdOf ByteArray.empty t149 0)] (by rfl) rfl rfl (by (try simp only [List.map_toArray, List.map_cons, List.map_nil]); first | done | rfl | (simp only [List.length_drop, List.length_take]; rfl)) ?_
             with_reducible refine (spec_l1Read.calls kj4 (rdOf ByteArray.empty t149 0) t153 _ A18.out).mono ?_
             rintro e w' ⟨rfl, ⟨nd, rfl⟩⟩
             refine ⟨_, rfl, ?_⟩
             refine hK.out _ _ ⟨hHeld.1, hHeld.2.1, hHeld.2.2⟩ (fun hHeld => ?_)
             clear hK K
             refine norm_ (a' := ?_) ?_ ?_
             rotate_left
             ·show Act.put _ (some 37) _ = _
              simp only [Act.put, List.setIfInBounds_toArray, List.set_cons_zero, List.set_cons_succ, i64_w, i32_w]
              rfl
             refine one_ (i := 7) (N := some 41) #[true, true, true, true, true, true, true, true, true, true, true, false, false, false, true, false] rfl rfl (one_of HT_.out (by kernel_rfl)) (by decide) (fun K hK => ?_)
             refine goes_ Tryd.func10 (by kernel_rfl) rfl #[.string (rdOf ByteArray.empty t149 1)] (by rfl) rfl rfl (by (try simp only [List.map_toArray, List.map_cons, List.map_nil]); first | done | rfl | (simp only [List.length_drop, List.length_take]; rfl)) ?_
             with_reducible refine (spec_l1Read.calls kj4 (rdOf ByteArray.empty t149 1) t155 _ A20.out).mono ?_
             rintro e w' ⟨rfl, ⟨nd, rfl⟩⟩
             refine ⟨_, rfl, ?_⟩
             refine hK.out _ _ ⟨hHeld.1, hHeld.2.1, hHeld.2.2⟩ (fun hHeld => ?_)
             clear hK K
             refine norm_ (a' := ?_) ?_ ?_
             rotate_left
             ·show Act.put _ (some 41) _ = _
              simp only [Act.put, List.setIfInBounds_toArray, List.set_cons_zero, List.set_cons_succ, i64_w, i32_w]
              rfl
             refine one_ (i := 11) (N := some 45) #[true, true, true, true, true, true, true, true, true, true, true, true, false, false, true, false] rfl rfl (one_of HT_.out (by kernel_rfl)) (by decide) (fun K hK => ?_)
             refine goes_ Tryd.func10 (by kernel_rfl) rfl #[.string (rdOf ByteArray.empty t149 2)] (by rfl) rfl rfl (by (try simp only [List.map_toArray, List.map_cons, List.map_nil]); first | done | rfl | (simp only [List.length_drop, List.length_take]; rfl)) ?_
             with_reducible refine (spec_l1Read.calls kj4 (rdOf ByteArray.empty t149 2) t157 _ A22.out).mono ?_
             rintro e w' ⟨rfl, ⟨nd, rfl⟩⟩
             refine ⟨_, rfl, ?_⟩
             refine hK.out _ _ ⟨hHeld.1, hHeld.2.1, hHeld.2.2⟩ (fun hHeld => ?_)
             clear hK K
             refine norm_ (a' := ?_) ?_ ?_
             rotate_left
             ·show Act.put _ (some 45) _ = _
              simp only [Act.put, List.setIfInBounds_toArray, List.set_cons_zero, List.set_cons_succ, i64_w, i32_w]
              rfl
             refine pure_ (i := 12) (N := some 46) (v := ?_) (a' := ?_) #[true, true, true, true, true, true, true, true, true, true, true, true, true, false, true, false] rfl rfl (any_of HT_.out (by kernel_rfl)) (fun _ _ _ h => h) (Or.inl ⟨by rfl, ?_⟩) ?_ ?_
             rotate_left
             ·intro w'
              go_simp
              with_reducible rfl
             rotate_left
             ·simp only [Act.put, List.setIfInBounds_toArray, List.set_cons_zero, List.set_cons_succ, i64_w, i32_w]
              rfl
             refine pure_ (i := 13) (N := some 47) (v := ?_) (a' := ?_) #[true, true, true, true, true, true, true, true, true, true, true, true, true, true, true, false] rfl rfl (any_of HT_.out (by kernel_rfl)) (fun _ _ _ h => h) (Or.inl ⟨by rfl, ?_⟩) ?_ ?_
             rotate_left
             ·intro w'
              go_simp
              with_reducible rfl
             rotate_left
             ·simp only [Act.put, List.setIfInBounds_toArray, List.set_cons_zero, List.set_cons_succ, i64_w, i32_w]
              rfl
             exact norm_ (by simp only [putAll, Act.put, List.setIfInBounds_toArray, List.set_cons_zero, List.set_cons_succ]) (hCont (gb158) _ ⟨hHeld, (Kd.R_pp (Kd.R_mono HO151.out (fun _ hk => ⟨hk.1.2, hk.2⟩))), (Kd.R_pp (Kd.R_mono HO_4.out (fun _ hk => ⟨hk.2, hk.1⟩))), (Kd.R_pp (Kd.R_mono HO_5.out (fun _ hk => ⟨hk.2, hk.1⟩))), (kp_ BK140), (kp_ BK158), GW158.out, GE158.out, NB140_158.out, NB158_140.out, (hb_ HB)⟩)
           rintro gb158 w29 ⟨hS_, h0_, h1_, h2_, h3_, h4_, h5_, h6_, h7_, h8_, h9_⟩
           have n0_ : Aside0 (Kd.R Kd.string 9 w29 w.heap.size (fun k_ => some k_ ≠ (.slice (some ad144) t141.length co8 : Value).ownBlock ∧ some k_ ≠ (.slice (some ad148) t145.length co24 : Value).ownBlock) (.slice (some ad152) t149.length co26) t149) := ⟨h0_⟩
           have n1_ : Aside0 (Kd.R Kd.string 9 w29 w.heap.size (fun k_ => some k_ ≠ (.slice (some ad152) t149.length co26 : Value).ownBlock ∧ some k_ ≠ (.slice (some ad148) t145.length co24 : Value).ownBlock) (.slice (some ad144) t141.length co8) t141) := ⟨h1_⟩
           have n2_ : Aside0 (Kd.R Kd.string 9 w29 w.heap.size (fun k_ => some k_ ≠ (.slice (some ad152) t149.length co26 : Value).ownBlock ∧ some k_ ≠ (.slice (some ad144) t141.length co8 : Value).ownBlock) (.slice (some ad148) t145.length co24) t145) := ⟨h2_⟩
           have n3_ : Aside0 (w29.heap[gb140]? = some (.cells #[.int .i64 0, .int .i64 0, .int .i64 0, .slice none 0 0, .slice none 0 0, .slice none 0 0] 26 (0, 0))) := ⟨h3_⟩
           have n4_ : Aside0 (w29.heap[gb158]? = some (.cells #[.int .i64 0, .int .i64 0, .int .i64 0, .slice none 0 0, .slice none 0 0, .slice none 0 0] 26 (0, 0))) := ⟨h4_⟩
           have n5_ : Aside0 (w.heap.size ≤ gb158) := ⟨h5_⟩
           have n6_ : Aside0 (w.heap.size ≤ gb158) := ⟨h6_⟩
           have n7_ : Aside0 (gb140 ≠ gb158) := ⟨h7_⟩
           have n8_ : Aside0 (gb158 ≠ gb140) := ⟨h8_⟩
           have n9_ : Aside0 (Below w.heap.size w w29) := ⟨h9_⟩
           clear HO_4
           clear HO_5
           clear HO151
           clear BK140
           clear HB
           clear h0_ h1_ h2_ h3_ h4_ h5_ h6_ h7_ h8_ h9_
           have HO151 := n0_
           have HO_4 := n1_
           have HO_5 := n2_
           have BK140 := n3_
           have BK158 := n4_
           have GW158 := n5_
           have GE158 := n6_
           have NB140_158 := n7_
           have NB158_140 := n8_
           have HB := n9_
           clear n0_ n1_ n2_ n3_ n4_ n5_ n6_ n7_ n8_ n9_
           have hHeld : w29.cell? ad152 = some (.string (rdOf ByteArray.empty t149 0)) ∧ w29.cell? ⟨ad152.block, ad152.off + 1, none⟩ = some (.string (rdOf ByteArray.empty t149 1)) ∧ w29.cell? ⟨ad152.block, ad152.off + 2, none⟩ = some (.string (rdOf ByteArray.empty t149 2)) := hS_
           refine norm_ (a' := ?_) ?_ ?_
           rotate_left
           ·simp only [putAll, Act.put, List.setIfInBounds_toArray, List.set_cons_zero, List.set_cons_succ]
            rfl
           refine one_ (i := 15) (N := none) #[true, true, true, true, true, true, true, true, true, true, true, true, true, true, true, true] rfl rfl (one_of HT_.out (by kernel_rfl)) (by decide) (fun K hK => ?_)
           have hs30 : w29.cell? ⟨gb158, 0, none⟩ = some (.int .i64 0) := (blk_cell BK158.out 0).trans rfl
           have hfs30 := blk_frozen BK158.out 0
           have hns30_0 := NB140_158.out
           have hms30_0 := NB158_140.out
           have hs31 : w29.cell? ⟨gb158, 1, none⟩ = some (.int .i64 0) := (blk_cell BK158.out 1).trans rfl
           have hfs31 := blk_frozen BK158.out 1
           have hns31_0 := NB140_158.out
           have hms31_0 := NB158_140.out
           have hs32 : w29.cell? ⟨gb158, 2, none⟩ = some (.int .i64 0) := (blk_cell BK158.out 2).trans rfl
           have hfs32 := blk_frozen BK158.out 2
           have hns32_0 := NB140_158.out
           have hms32_0 := NB158_140.out
           have hs33 : w29.cell? ⟨gb158, 3, none⟩ = some (.slice none 0 0) := (blk_cell BK158.out 3).trans rfl
           have hfs33 := blk_frozen BK158.out 3
           have hns33_0 := NB140_158.out
           have hms33_0 := NB158_140.out
           have hs34 : w29.cell? ⟨gb158, 4, none⟩ = some (.slice none 0 0) := (blk_cell BK158.out 4).trans rfl
           have hfs34 := blk_frozen BK158.out 4
           have hns34_0 := NB140_158.out
           have hms34_0 := NB158_140.out
           have hs35 : w29.cell? ⟨gb158, 5, none⟩ = some (.slice none 0 0) := (blk_cell BK158.out 5).trans rfl
           have hfs35 := blk_frozen BK158.out 5
           have hns35_0 := NB140_158.out
           have hms35_0 := NB158_140.out
           refine skip_ (w1 := ?_) (by rfl) rfl ?_ ?_
           rotate_left
           ·go_simp
            rfl
           refine hK.out _ _ ⟨((cell_far (p := ⟨gb158, _, none⟩) (by first | exact Kd.own_blk (Kd.R_ne HO151.out BK158.out (by decide)) | (rw [add_block]; exact Kd.own_blk (Kd.R_ne HO151.out BK158.out (by decide))) | (show (Addr.add _ _).block ≠ _; rw [add_block]; exact Kd.own_blk (Kd.R_ne HO151.out BK158.out (by decide))) | (dsimp only; exact Kd.own_blk (Kd.R_ne HO151.out BK158.out (by decide)))) _).trans (((cell_far (p := ⟨gb158, _, none⟩) (by first | exact Kd.own_blk (Kd.R_ne HO151.out BK158.out (by decide)) | (rw [add_block]; exact Kd.own_blk (Kd.R_ne HO151.out BK158.out (by decide))) | (show (Addr.add _ _).block ≠ _; rw [add_block]; exact Kd.own_blk (Kd.R_ne HO151.out BK158.out (by decide))) | (dsimp only; exact Kd.own_blk (Kd.R_ne HO151.out BK158.out (by decide)))) _).trans (((cell_far (p := ⟨gb158, _, none⟩) (by first | exact Kd.own_blk (Kd.R_ne HO151.out BK158.out (by decide)) | (rw [add_block]; exact Kd.own_blk (Kd.R_ne HO151.out BK158.out (by decide))) | (show (Addr.add _ _).block ≠ _; rw [add_block]; exact Kd.own_blk (Kd.R_ne HO151.out BK158.out (by decide))) | (dsimp only; exact Kd.own_blk (Kd.R_ne HO151.out BK158.out (by decide)))) _).trans (((cell_far (p := ⟨gb158, _, none⟩) (by first | exact Kd.own_blk (Kd.R_ne HO151.out BK158.out (by decide)) | (rw [add_block]; exact Kd.own_blk (Kd.R_ne HO151.out BK158.out (by decide))) | (show (Addr.add _ _).block ≠ _; rw [add_block]; exact Kd.own_blk (Kd.R_ne HO151.out BK158.out (by decide))) | (dsimp only; exact Kd.own_blk (Kd.R_ne HO151.out BK158.out (by decide)))) _).trans (((cell_far (p := ⟨gb158, _, none⟩) (by first | exact Kd.own_blk (Kd.R_ne HO151.out BK158.out (by decide)) | (rw [add_block]; exact Kd.own_blk (Kd.R_ne HO151.out BK158.out (by decide))) | (show (Addr.add _ _).block ≠ _; rw [add_block]; exact Kd.own_blk (Kd.R_ne HO151.out BK158.out (by decide))) | (dsimp only; exact Kd.own_blk (Kd.R_ne HO151.out BK158.out (by decide)))) _).trans (((cell_far (p := ⟨gb158, _, none⟩) (by first | exact Kd.own_blk (Kd.R_ne HO151.out BK158.out (by decide)) | (rw [add_block]; exact Kd.own_blk (Kd.R_ne HO151.out BK158.out (by decide))) | (show (Addr.add _ _).block ≠ _; rw [add_block]; exact Kd.own_blk (Kd.R_ne HO151.out BK158.out (by decide))) | (dsimp only; exact Kd.own_blk (Kd.R_ne HO151.out BK158.out (by decide)))) _).trans (hHeld.1)))))))))))), ((cell_far (p := ⟨gb158, _, none⟩) (by first | exact Kd.own_blk (Kd.R_ne HO151.out BK158.out (by decide)) | (rw [add_block]; exact Kd.own_blk (Kd.R_ne HO151.out BK158.out (by decide))) | (show (Addr.add _ _).block ≠ _; rw [add_block]; exact Kd.own_blk (Kd.R_ne HO151.out BK158.out (by decide))) | (dsimp only; exact Kd.own_blk (Kd.R_ne HO151.out BK158.out (by decide)))) _).trans (((cell_far (p := ⟨gb158, _, none⟩) (by first | exact Kd.own_blk (Kd.R_ne HO151.out BK158.out (by decide)) | (rw [add_block]; exact Kd.own_blk (Kd.R_ne HO151.out BK158.out (by decide))) | (show (Addr.add _ _).block ≠ _; rw [add_block]; exact Kd.own_blk (Kd.R_ne HO151.out BK158.out (by decide))) | (dsimp only; exact Kd.own_blk (Kd.R_ne HO151.out BK158.out (by decide)))) _).trans (((cell_far (p := ⟨gb158, _, none⟩) (by first | exact Kd.own_blk (Kd.R_ne HO151.out BK158.out (by decide)) | (rw [add_block]; exact Kd.own_blk (Kd.R_ne HO151.out BK158.out (by decide))) | (show (Addr.add _ _).block ≠ _; rw [add_block]; exact Kd.own_blk (Kd.R_ne HO151.out BK158.out (by decide))) | (dsimp only; exact Kd.own_blk (Kd.R_ne HO151.out BK158.out (by decide)))) _).trans (((cell_far (p := ⟨gb158, _, none⟩) (by first | exact Kd.own_blk (Kd.R_ne HO151.out BK158.out (by decide)) | (rw [add_block]; exact Kd.own_blk (Kd.R_ne HO151.out BK158.out (by decide))) | (show (Addr.add _ _).block ≠ _; rw [add_block]; exact Kd.own_blk (Kd.R_ne HO151.out BK158.out (by decide))) | (dsimp only; exact Kd.own_blk (Kd.R_ne HO151.out BK158.out (by decide)))) _).trans (((cell_far (p := ⟨gb158, _, none⟩) (by first | exact Kd.own_blk (Kd.R_ne HO151.out BK158.out (by decide)) | (rw [add_block]; exact Kd.own_blk (Kd.R_ne HO151.out BK158.out (by decide))) | (show (Addr.add _ _).block ≠ _; rw [add_block]; exact Kd.own_blk (Kd.R_ne HO151.out BK158.out (by decide))) | (dsimp only; exact Kd.own_blk (Kd.R_ne HO151.out BK158.out (by decide)))) _).trans (((cell_far (p := ⟨gb158, _, none⟩) (by first | exact Kd.own_blk (Kd.R_ne HO151.out BK158.out (by decide)) | (rw [add_block]; exact Kd.own_blk (Kd.R_ne HO151.out BK158.out (by decide))) | (show (Addr.add _ _).block ≠ _; rw [add_block]; exact Kd.own_blk (Kd.R_ne HO151.out BK158.out (by decide))) | (dsimp only; exact Kd.own_blk (Kd.R_ne HO151.out BK158.out (by decide)))) _).trans (hHeld.2.1)))))))))))), ((cell_far (p := ⟨gb158, _, none⟩) (by first | exact Kd.own_blk (Kd.R_ne HO151.out BK158.out (by decide)) | (rw [add_block]; exact Kd.own_blk (Kd.R_ne HO151.out BK158.out (by decide))) | (show (Addr.add _ _).block ≠ _; rw [add_block]; exact Kd.own_blk (Kd.R_ne HO151.out BK158.out (by decide))) | (dsimp only; exact Kd.own_blk (Kd.R_ne HO151.out BK158.out (by decide)))) _).trans (((cell_far (p := ⟨gb158, _, none⟩) (by first | exact Kd.own_blk (Kd.R_ne HO151.out BK158.out (by decide)) | (rw [add_block]; exact Kd.own_blk (Kd.R_ne HO151.out BK158.out (by decide))) | (show (Addr.add _ _).block ≠ _; rw [add_block]; exact Kd.own_blk (Kd.R_ne HO151.out BK158.out (by decide))) | (dsimp only; exact Kd.own_blk (Kd.R_ne HO151.out BK158.out (by decide)))) _).trans (((cell_far (p := ⟨gb158, _, none⟩) (by first | exact Kd.own_blk (Kd.R_ne HO151.out BK158.out (by decide)) | (rw [add_block]; exact Kd.own_blk (Kd.R_ne HO151.out BK158.out (by decide))) | (show (Addr.add _ _).block ≠ _; rw [add_block]; exact Kd.own_blk (Kd.R_ne HO151.out BK158.out (by decide))) | (dsimp only; exact Kd.own_blk (Kd.R_ne HO151.out BK158.out (by decide)))) _).trans (((cell_far (p := ⟨gb158, _, none⟩) (by first | exact Kd.own_blk (Kd.R_ne HO151.out BK158.out (by decide)) | (rw [add_block]; exact Kd.own_blk (Kd.R_ne HO151.out BK158.out (by decide))) | (show (Addr.add _ _).block ≠ _; rw [add_block]; exact Kd.own_blk (Kd.R_ne HO151.out BK158.out (by decide))) | (dsimp only; exact Kd.own_blk (Kd.R_ne HO151.out BK158.out (by decide)))) _).trans (((cell_far (p := ⟨gb158, _, none⟩) (by first | exact Kd.own_blk (Kd.R_ne HO151.out BK158.out (by decide)) | (rw [add_block]; exact Kd.own_blk (Kd.R_ne HO151.out BK158.out (by decide))) | (show (Addr.add _ _).block ≠ _; rw [add_block]; exact Kd.own_blk (Kd.R_ne HO151.out BK158.out (by decide))) | (dsimp only; exact Kd.own_blk (Kd.R_ne HO151.out BK158.out (by decide)))) _).trans (((cell_far (p := ⟨gb158, _, none⟩) (by first | exact Kd.own_blk (Kd.R_ne HO151.out BK158.out (by decide)) | (rw [add_block]; exact Kd.own_blk (Kd.R_ne HO151.out BK158.out (by decide))) | (show (Addr.add _ _).block ≠ _; rw [add_block]; exact Kd.own_blk (Kd.R_ne HO151.out BK158.out (by decide))) | (dsimp only; exact Kd.own_blk (Kd.R_ne HO151.out BK158.out (by decide)))) _).trans (hHeld.2.2))))))))))))⟩ (fun hHeld => ?_)
           clear hK K
           refine done_ (done_of HT_.out (by kernel_rfl)) ?_
           have n0_ : Aside0 (Kd.R Kd.string 9 ((((((w29.setCell ⟨gb158, 0, none⟩ (.int .i64 t153)).setCell ⟨gb158, 1, none⟩ (.int .i64 t155)).setCell ⟨gb158, 2, none⟩ (.int .i64 t157)).setCell ⟨gb158, 3, none⟩ (.slice none 0 0)).setCell ⟨gb158, 4, none⟩ (.slice none 0 0)).setCell ⟨gb158, 5, none⟩ (.slice none 0 0)) w.heap.size (fun k_ => some k_ ≠ (.slice (some ad148) t145.length co24 : Value).ownBlock ∧ some k_ ≠ (.slice (some ad152) t149.length co26 : Value).ownBlock) (.slice (some ad144) t141.length co8) t141) := ⟨Kd.R_mono (Kd.R_s HO_4 BK158) (fun _ hk => ⟨hk.2, hk.1⟩)⟩
           have n1_ : Aside0 (Kd.R Kd.string 9 ((((((w29.setCell ⟨gb158, 0, none⟩ (.int .i64 t153)).setCell ⟨gb158, 1, none⟩ (.int .i64 t155)).setCell ⟨gb158, 2, none⟩ (.int .i64 t157)).setCell ⟨gb158, 3, none⟩ (.slice none 0 0)).setCell ⟨gb158, 4, none⟩ (.slice none 0 0)).setCell ⟨gb158, 5, none⟩ (.slice none 0 0)) w.heap.size (fun k_ => some k_ ≠ (.slice (some ad144) t141.length co8 : Value).ownBlock ∧ some k_ ≠ (.slice (some ad152) t149.length co26 : Value).ownBlock) (.slice (some ad148) t145.length co24) t145) := ⟨Kd.R_mono (Kd.R_s HO_5 BK158) (fun _ hk => ⟨hk.2, hk.1⟩)⟩
           have n2_ : Aside0 (Kd.R Kd.string 9 ((((((w29.setCell ⟨gb158, 0, none⟩ (.int .i64 t153)).setCell ⟨gb158, 1, none⟩ (.int .i64 t155)).setCell ⟨gb158, 2, none⟩ (.int .i64 t157)).setCell ⟨gb158, 3, none⟩ (.slice none 0 0)).setCell ⟨gb158, 4, none⟩ (.slice none 0 0)).setCell ⟨gb158, 5, none⟩ (.slice none 0 0)) w.heap.size (fun k_ => some k_ ≠ (.slice (some ad144) t141.length co8 : Value).ownBlock ∧ some k_ ≠ (.slice (some ad148) t145.length co24 : Value).ownBlock) (.slice (some ad152) t149.length co26) t149) := ⟨Kd.R_mono (Kd.R_s HO151 BK158) (fun _ hk => ⟨hk.1, hk.2⟩)⟩
           have n3_ : Aside0 (((((((w29.setCell ⟨gb158, 0, none⟩ (.int .i64 t153)).setCell ⟨gb158, 1, none⟩ (.int .i64 t155)).setCell ⟨gb158, 2, none⟩ (.int .i64 t157)).setCell ⟨gb158, 3, none⟩ (.slice none 0 0)).setCell ⟨gb158, 4, none⟩ (.slice none 0 0)).setCell ⟨gb158, 5, none⟩ (.slice none 0 0)).heap[gb140]? = some (.cells #[.int .i64 0, .int .i64 0, .int .i64 0, .slice none 0 0, .slice none 0 0, .slice none 0 0] 26 (0, 0))) := ⟨kf_ BK140 NB140_158⟩
           have n4_ : Aside0 (((((((w29.setCell ⟨gb158, 0, none⟩ (.int .i64 t153)).setCell ⟨gb158, 1, none⟩ (.int .i64 t155)).setCell ⟨gb158, 2, none⟩ (.int .i64 t157)).setCell ⟨gb158, 3, none⟩ (.slice none 0 0)).setCell ⟨gb158, 4, none⟩ (.slice none 0 0)).setCell ⟨gb158, 5, none⟩ (.slice none 0 0)).heap[gb158]? = some (.cells #[.int .i64 t153, .int .i64 t155, .int .i64 t157, .slice none 0 0, .slice none 0 0, .slice none 0 0] 26 (0, 0))) := ⟨kpq_ (kputs BK158 [(0, _), (1, _), (2, _), (3, _), (4, _), (5, _)])⟩
           have n5_ : Aside0 (Below w.heap.size w ((((((w29.setCell ⟨gb158, 0, none⟩ (.int .i64 t153)).setCell ⟨gb158, 1, none⟩ (.int .i64 t155)).setCell ⟨gb158, 2, none⟩ (.int .i64 t157)).setCell ⟨gb158, 3, none⟩ (.slice none 0 0)).setCell ⟨gb158, 4, none⟩ (.slice none 0 0)).setCell ⟨gb158, 5, none⟩ (.slice none 0 0))) := ⟨hb_ HB⟩
           (try clear HO_4)
           (try clear HO_5)
           (try clear HO151)
           (try clear BK140)
           (try clear BK158)
           (try clear HB)
           generalize ((((((w29.setCell ⟨gb158, 0, none⟩ (.int .i64 t153)).setCell ⟨gb158, 1, none⟩ (.int .i64 t155)).setCell ⟨gb158, 2, none⟩ (.int .i64 t157)).setCell ⟨gb158, 3, none⟩ (.slice none 0 0)).setCell ⟨gb158, 4, none⟩ (.slice none 0 0)).setCell ⟨gb158, 5, none⟩ (.slice none 0 0)) = w36 at n0_ n1_ n2_ n3_ n4_ n5_ ⊢
           have HO_4 := n0_
           have HO_5 := n1_
           have HO151 := n2_
           have BK140 := n3_
           have BK158 := n4_
           have HB := n5_
           clear n0_ n1_ n2_ n3_ n4_ n5_
           have q37 : (1 : Int) ≤ ((t141.length : Int) : Int) := of_decide_eq_true (by first | (with_reducible assumption) | assumption)
           obtain ⟨i037, hi037, _, hsz37, _⟩ := info_parts info9
           have hroom37 : t141.length ≤ co8 := (Kd.R_reads' HO_4.out).2.1
           have hC37 : Kd.C Kd.string _ (some ad144) t141.length t141 := (Kd.R_reads' HO_4.out).2.2
           have hcut37 := cut_from (P := Tryd.prog) 32 9 .i64 Tryd.underlying32 hi037 1 hsz37 (some ad144) t141.length co8 1 (by omega) q37
           have hr37 := Kd.C_drop (m := (1 : Int).toNat) (c := co8) hC37 (by omega) hroom37
           obtain ⟨A37, hA37⟩ : ∃ A1, A1 = (if co8 = (1 : Int).toNat then (some ad144) else ((some ad144) : Option Addr).map (·.add ((1 : Int).toNat * 1))) := ⟨_, rfl⟩
           obtain ⟨c37, hc37⟩ : ∃ c1, c1 = co8 - (1 : Int).toNat := ⟨_, rfl⟩
           have hy37 : y159.length = t141.length - (1 : Int).toNat := (by rw [Ny159.out, List.length_drop] <;> omega)
           rw [show (t141).drop (1 : Int).toNat = y159 from Ny159.out.symm] at hr37
           replace hr37 : Kd.C Kd.string _ A37 y159.length y159 := (by rw [hA37]; exact hr37)
           rw [← hy37, ← hA37, ← hc37] at hcut37
           have HR162 := Aside0.mk hr37
           have HC162 := Aside0.mk (show y159.length ≤ c37 from by rw [hy37, hc37]; exact Nat.sub_le_sub_right hroom37 _)
           clear hr37 hC37 hroom37 hi037 hsz37 hc37
           have KY37 := Aside0.mk hy37
           have KA37 := Aside0.mk hA37
           clear hy37 hA37
           have KL37 := Aside0.mk (show 1 ≤ t141.length from by omega)
           replace q37 := eq_true q37
           try go_wp2
           go_loopg [51] kj4 (fun kq v51 w' => ∃ (x51_2 : Int) (x159003_2 : List Int) (x159004_2 : List Int) (x159005_2 : List Int) (u159003 : Value) (u159004 : Value) (u159005 : Value), v51 = .int .i64 x51_2 ∧ Aside0 (spec_ParseModel.l0 kq a0 y159 (y159.length : Int) x51_2 t153 t155 t157 x159003_2 x159004_2 x159005_2 = some (r1, r2, r3, r4, r5, r6, r7)) ∧ Aside0 (kq ≤ kj4) ∧ Aside0 (Kd.R (Kd.int .i64) 3 w' w.heap.size (fun k_ => some k_ ≠ (u159004 : Value).ownBlock ∧ some k_ ≠ (u159005 : Value).ownBlock) u159003 x159003_2) ∧ Aside0 (Kd.R (Kd.int .i64) 3 w' w.heap.size (fun k_ => some k_ ≠ (u159003 : Value).ownBlock ∧ some k_ ≠ (u159005 : Value).ownBlock) u159004 x159004_2) ∧ Aside0 (Kd.R (Kd.int .i64) 3 w' w.heap.size (fun k_ => some k_ ≠ (u159003 : Value).ownBlock ∧ some k_ ≠ (u159004 : Value).ownBlock) u159005 x159005_2) ∧ Aside0 (w'.heap[gb140]? = some (.cells #[.int .i64 0, .int .i64 0, .int .i64 0, (.slice none 0 0), (.slice none 0 0), (.slice none 0 0)] 26 (0, 0))) ∧ Aside0 (w'.heap[gb158]? = some (.cells #[.int .i64 t153, .int .i64 t155, .int .i64 t157, u159003, u159004, u159005] 26 (0, 0))) ∧ Aside0 (Kd.R Kd.string 9 w' w.heap.size (fun _ => True) (.slice (some ad144) t141.length co8) t141) ∧ Aside0 (Kd.C Kd.string w' A37 y159.length y159) ∧ Aside0 (Below w.heap.size w w'))
           case atStart => exact ⟨(0), (([] : List Int)), (([] : List Int)), (([] : List Int)), (.slice none 0 0), (.slice none 0 0), (.slice none 0 0), (by first | rfl | (simp; done) | (simp [*]; done)), H', ⟨Nat.le_refl _⟩, ⟨by first | exact Kd.R_nil _ _ _ _ _ | exact Kd.N_nil _ _ _ _ _ | exact Kd.V_nil _ _ _ _ _ | exact Kd.Q_nil _ _ _ _ _ | exact Kd.S_nil _ _ _ _ _⟩, ⟨by first | exact Kd.R_nil _ _ _ _ _ | exact Kd.N_nil _ _ _ _ _ | exact Kd.V_nil _ _ _ _ _ | exact Kd.Q_nil _ _ _ _ _ | exact Kd.S_nil _ _ _ _ _⟩, ⟨by first | exact Kd.R_nil _ _ _ _ _ | exact Kd.N_nil _ _ _ _ _ | exact Kd.V_nil _ _ _ _ _ | exact Kd.Q_nil _ _ _ _ _ | exact Kd.S_nil _ _ _ _ _⟩, ⟨kp_ BK140⟩, ⟨kp_ BK158⟩, ⟨Kd.R_mono (Kd.R_p HO_4) (fun _ _ => trivial)⟩, ⟨by repeat (first | (with_reducible exact HR162.out) | (with_reducible refine Kd.C_alloc ?_ _) | (with_reducible refine Kd.C_drewN ?_ _) | (with_reducible refine Kd.C_drew ?_) | exact HR162.out)⟩, ⟨hb_ HB⟩⟩
           case round =>
            clear H'
            (try clear c1); (try clear p1); (try clear q1); (try clear hx1); (try clear qi1); (try clear c2); (try clear p2); (try clear c3); (try clear q3); (try clear c9); (try clear c10); (try clear p14); (try clear q14); (try clear hx14); (try clear qi14); (try clear p15); (try clear q15); (try clear hx15); (try clear qi15); (try clear c21); (try clear c21b0); (try clear c21b1); (try clear c23); (try clear c23b0); (try clear c23b1); (try clear c37); (try clear q37); (try clear hx148_0); (try clear hx152_0); (try clear hx154_0); (try clear hx156_0); (try clear p148); (try clear p152); (try clear p154); (try clear p156); (try clear q148); (try clear q152); (try clear q154); (try clear q156); (try clear q37)
            obtain ⟨x51_2, x159003_2, x159004_2, x159005_2, u159003, u159004, u159005, rfl, HA, HK2, HO_159003, HO_159004, HO_159005, BK140, BK158, HO_4, HR162, HB⟩ := hrel
            cases gk with
            | zero => exact absurd HA.out (by simp [spec_ParseModel.l0])
            | succ k2 =>
             have H := HA.out
             clear HA
             simp only [spec_ParseModel.l0] at H
             by_cases c38 : x51_2 < (y159.length : Int)
             ·rw [if_pos c38] at H
              have c38b0 : decide (x51_2 < (y159.length : Int)) = true := decide_eq_true c38
              clear c38
              by_cases c39 : 0 ≤ x51_2
              ·rw [if_pos c39] at H
               have c39b0 : decide (0 ≤ x51_2) = true := decide_eq_true c39
               clear c39
               by_cases c40 : x51_2 < (y159.length : Int)
               ·rw [if_pos c40] at H
                have c40b0 : decide (x51_2 < (y159.length : Int)) = true := decide_eq_true c40
                clear c40
                replace H := Option.bind_eq_some_iff.mp H
                obtain ⟨t164, A410, H⟩ := H
                replace H : (if (t164.length : Int) = 3 then (if 0 < (t164.length : Int) then ((spec_l1Read.f k2 (rdOf ByteArray.empty t164 0)).bind fun t168 => (if x159003_2.length < 17592186044416 then (if 1 < (t164.length : Int) then ((spec_l1Read.f k2 (rdOf ByteArray.empty t164 1)).bind fun t173 => (if x159004_2.length < 17592186044416 then (if 2 < (t164.length : Int) then ((spec_l1Read.f k2 (rdOf ByteArray.empty t164 2)).bind fun t178 => (if x159005_2.length < 17592186044416 then (spec_ParseModel.l0 k2 a0 y159 (y159.length : Int) (wrap64 (x51_2 + 1)) t153 t155 t157 (x159003_2 ++ [t168]) (x159004_2 ++ [t173]) (x159005_2 ++ [t178])) else (none))) else (none)) else (none))) else (none)) else (none))) else (none)) else (spec_ParseModel.l0 k2 a0 y159 (y159.length : Int) (wrap64 (x51_2 + 1)) t153 t155 t157 x159003_2 x159004_2 x159005_2)) = some (r1, r2, r3, r4, r5, r6, r7) := H
                have A41 := Aside0.mk A410
                clear A410
                by_cases c42 : (t164.length : Int) = 3
                ·rw [if_pos c42] at H
                 have c42b0 : ((t164.length : Int) == 3) = true := beq_iff_eq.mpr c42
                 have c42b1 : ((t164.length : Int) != 3) = false := bne_eq_false_iff_eq.mpr c42
                 clear c42
                 by_cases c43 : 0 < (t164.length : Int)
                 ·rw [if_pos c43] at H
                  have c43b0 : decide (0 < (t164.length : Int)) = true := decide_eq_true c43
                  have c43b1 : decide (0 < t164.length) = true := decide_eq_true (by omega)
                  clear c43
                  replace H := Option.bind_eq_some_iff.mp H
                  obtain ⟨t168, A440, H⟩ := H
                  replace H : (if x159003_2.length < 17592186044416 then (if 1 < (t164.length : Int) then ((spec_l1Read.f k2 (rdOf ByteArray.empty t164 1)).bind fun t173 => (if x159004_2.length < 17592186044416 then (if 2 < (t164.length : Int) then ((spec_l1Read.f k2 (rdOf ByteArray.empty t164 2)).bind fun t178 => (if x159005_2.length < 17592186044416 then (spec_ParseModel.l0 k2 a0 y159 (y159.length : Int) (wrap64 (x51_2 + 1)) t153 t155 t157 (x159003_2 ++ [t168]) (x159004_2 ++ [t173]) (x159005_2 ++ [t178])) else (none))) else (none)) else (none))) else (none)) else (none)) = some (r1, r2, r3, r4, r5, r6, r7) := H
                  have A44 := Aside0.mk A440
                  clear A440
                  by_cases c45 : x159003_2.length < 17592186044416
                  ·rw [if_pos c45] at H
                   have LMc45 := Aside0.mk c45
                   clear c45
                   obtain ⟨y169, hy169⟩ : ∃ y_ : List Int, y_ = (x159003_2 ++ [t168]) := ⟨_, rfl⟩
                   replace H : (if 1 < (t164.length : Int) then ((spec_l1Read.f k2 (rdOf ByteArray.empty t164 1)).bind fun t173 => (if x159004_2.length < 17592186044416 then (if 2 < (t164.length : Int) then ((spec_l1Read.f k2 (rdOf ByteArray.empty t164 2)).bind fun t178 => (if x159005_2.length < 17592186044416 then (spec_ParseModel.l0 k2 a0 y159 (y159.length : Int) (wrap64 (x51_2 + 1)) t153 t155 t157 y169 (x159004_2 ++ [t173]) (x159005_2 ++ [t178])) else (none))) else (none)) else (none))) else (none)) = some (r1, r2, r3, r4, r5, r6, r7) := by first | (rw [hy169]; with_reducible exact H) | (have H2_ := (Option.bind_some _ _).symm.trans H; rw [hy169]; with_reducible exact H2_) | (have H2_ := (Option.bind_some _ _).symm.trans H; with_reducible exact H2_) | with_reducible exact H | (rw [hy169]; exact H) | exact H
                   have Ny169 := Aside0.mk hy169
                   clear hy169
                   by_cases c46 : 1 < (t164.length : Int)
                   ·rw [if_pos c46] at H
                    have c46b0 : decide (1 < (t164.length : Int)) = true := decide_eq_true c46
                    have c46b1 : decide (1 < t164.length) = true := decide_eq_true (by omega)
                    clear c46
                    replace H := Option.bind_eq_some_iff.mp H
                    obtain ⟨t173, A470, H⟩ := H
                    replace H : (if x159004_2.length < 17592186044416 then (if 2 < (t164.length : Int) then ((spec_l1Read.f k2 (rdOf ByteArray.empty t164 2)).bind fun t178 => (if x159005_2.length < 17592186044416 then (spec_ParseModel.l0 k2 a0 y159 (y159.length : Int) (wrap64 (x51_2 + 1)) t153 t155 t157 y169 (x159004_2 ++ [t173]) (x159005_2 ++ [t178])) else (none))) else (none)) else (none)) = some (r1, r2, r3, r4, r5, r6, r7) := H
                    have A47 := Aside0.mk A470
                    clear A470
                    by_cases c48 : x159004_2.length < 17592186044416
                    ·rw [if_pos c48] at H
                     have LMc48 := Aside0.mk c48
                     clear c48
                     obtain ⟨y174, hy174⟩ : ∃ y_ : List Int, y_ = (x159004_2 ++ [t173]) := ⟨_, rfl⟩
                     replace H : (if 2 < (t164.length : Int) then ((spec_l1Read.f k2 (rdOf ByteArray.empty t164 2)).bind fun t178 => (if x159005_2.length < 17592186044416 then (spec_ParseModel.l0 k2 a0 y159 (y159.length : Int) (wrap64 (x51_2 + 1)) t153 t155 t157 y169 y174 (x159005_2 ++ [t178])) else (none))) else (none)) = some (r1, r2, r3, r4, r5, r6, r7) := by first | (rw [hy174]; with_reducible exact H) | (have H2_ := (Option.bind_some _ _).symm.trans H; rw [hy174]; with_reducible exact H2_) | (have H2_ := (Option.bind_some _ _).symm.trans H; with_reducible exact H2_) | with_reducible exact H | (rw [hy174]; exact H) | exact H
                     have Ny174 := Aside0.mk hy174
                     clear hy174
                     by_cases c49 : 2 < (t164.length : Int)
                     ·rw [if_pos c49] at H
                      have c49b0 : decide (2 < (t164.length : Int)) = true := decide_eq_true c49
                      have c49b1 : decide (2 < t164.length) = true := decide_eq_true (by omega)
                      clear c49
                      replace H := Option.bind_eq_some_iff.mp H
                      obtain ⟨t178, A500, H⟩ := H
                      replace H : (if x159005_2.length < 17592186044416 then (spec_ParseModel.l0 k2 a0 y159 (y159.length : Int) (wrap64 (x51_2 + 1)) t153 t155 t157 y169 y174 (x159005_2 ++ [t178])) else (none)) = some (r1, r2, r3, r4, r5, r6, r7) := H
                      have A50 := Aside0.mk A500
                      clear A500
                      by_cases c51 : x159005_2.length < 17592186044416
                      ·rw [if_pos c51] at H
                       have LMc51 := Aside0.mk c51
                       clear c51
                       obtain ⟨y179, hy179⟩ : ∃ y_ : List Int, y_ = (x159005_2 ++ [t178]) := ⟨_, rfl⟩
                       replace H : (spec_ParseModel.l0 k2 a0 y159 (y159.length : Int) (wrap64 (x51_2 + 1)) t153 t155 t157 y169 y174 y179) = some (r1, r2, r3, r4, r5, r6, r7) := by first | (rw [hy179]; with_reducible exact H) | (have H2_ := (Option.bind_some _ _).symm.trans H; rw [hy179]; with_reducible exact H2_) | (have H2_ := (Option.bind_some _ _).symm.trans H; with_reducible exact H2_) | with_reducible exact H | (rw [hy179]; exact H) | exact H
                       have Ny179 := Aside0.mk hy179
                       clear hy179
                       have H' := Aside0.mk H
                       clear H
                       have p163 : 0 ≤ (x51_2 : Int) := of_decide_eq_true (by first | (with_reducible assumption) | assumption)
                       have q163 : x51_2 < (y159.length : Int) := of_decide_eq_true (by first | (with_reducible assumption) | assumption)
                       obtain ⟨ad163, e163, hx163_0⟩ := Kd.at_string HR162.out x51_2 p163 q163
                       cases e163
                       try replace hx163_0 := (HB.out.cell (World.block_lt_of_cell? w _ hx163_0)).trans hx163_0
                       replace p163 := eq_true p163
                       replace q163 := eq_true q163
                       try go_wp2_with (first | ((with_reducible refine gate_callee (f := 9) rfl ?_); refine gl_ (some 56) Tryd.func9 #[.string (rdOf ByteArray.empty y159 x51_2), .int .u8 32] rfl rfl rfl ?_; (with_reducible refine (spec_l1Split.calls k2 (rdOf ByteArray.empty y159 x51_2) 32 t164 _ A41.out).mono ?_); rintro e w52 ⟨v165, rfl, ho0, hb⟩; refine ⟨_, rfl, ?_⟩; have HO166 := Kd.R_lo (Kd.R_nw ho0 HO_4) HB; replace HO_159003 := Kd.R_b HO_159003 hb; replace HO_159004 := Kd.R_b HO_159004 hb; replace HO_159005 := Kd.R_b HO_159005 hb; replace HO_4 := Kd.R_e HO_4 ho0 hb; replace BK140 := kb_ BK140 hb; replace BK158 := kb_ BK158 hb; replace HR162 := Aside0.mk (Kd.C_below (by repeat (first | (with_reducible exact HR162.out) | (with_reducible refine Kd.C_alloc ?_ _) | (with_reducible refine Kd.C_drewN ?_ _) | (with_reducible refine Kd.C_drew ?_) | exact HR162.out)) hb); replace HB := hbs_ HB hb; (try clear hb); (try clear hb2); (try clear hk); (try clear hi); (try clear ho0); obtain ⟨Ao53, co53, eo53⟩ := Kd.R_slice HO166.out; subst eo53))
                       have n0_ := Aside0.mk (Kd.R_drew HO_159003.out)
                       have n1_ := Aside0.mk (Kd.R_drew HO_159004.out)
                       have n2_ := Aside0.mk (Kd.R_drew HO_159005.out)
                       have n3_ := Aside0.mk (Kd.R_drew HO_4.out)
                       have n4_ := Aside0.mk (Kd.R_drew HO166.out)
                       have n5_ := Aside0.mk (blk_drew BK140.out)
                       have n6_ := Aside0.mk (blk_drew BK158.out)
                       have n7_ := Aside0.mk (Kd.C_drew HR162.out)
                       have n8_ := Aside0.mk (below_drew1 HB.out)
                       clear HO_159003
                       clear HO_159004
                       clear HO_159005
                       clear HO_4
                       clear HO166
                       clear BK140
                       clear BK158
                       clear HR162
                       clear HB
                       have HO_159003 := n0_
                       have HO_159004 := n1_
                       have HO_159005 := n2_
                       have HO_4 := n3_
                       have HO166 := n4_
                       have BK140 := n5_
                       have BK158 := n6_
                       have HR162 := n7_
                       have HB := n8_
                       clear n0_ n1_ n2_ n3_ n4_ n5_ n6_ n7_ n8_
                       have p167 : 0 ≤ (0 : Int) := (by omega)
                       have q167 : 0 < (t164.length : Int) := of_decide_eq_true (by first | (with_reducible assumption) | assumption)
                       obtain ⟨ad167, e167, hx167_0⟩ := Kd.at_string (Kd.R_reads' HO166.out).2.2 0 p167 q167
                       cases e167
                       have qi167 : (0 < t164.length) = True := eq_true (by omega)
                       (try rw [show ((0 : Int)).toNat = 0 from rfl] at hx167_0)
                       (try rw [Addr.add_zero'] at hx167_0)
                       replace p167 := eq_true p167
                       replace q167 := eq_true q167
                       refine start_ (n := 10) (S := fun w' => w'.cell? ⟨gb158, 0, none⟩ = some (.int .i64 t153) ∧ w'.cell? ⟨gb158, 1, none⟩ = some (.int .i64 t155) ∧ w'.cell? ⟨gb158, 2, none⟩ = some (.int .i64 t157) ∧ w'.cell? ⟨gb158, 3, none⟩ = some (u159003) ∧ w'.cell? ⟨gb158, 4, none⟩ = some (u159004) ∧ w'.cell? ⟨gb158, 5, none⟩ = some (u159005) ∧ w'.cell? ad167 = some (.string (rdOf ByteArray.empty t164 0))) (ds := [7, 9]) #[false, false, false, false, false, false, false, false, false, false] (by kernel_rfl) rfl rfl ⟨(blk_cell BK158.out 0).trans rfl, (blk_cell BK158.out 1).trans rfl, (blk_cell BK158.out 2).trans rfl, (blk_cell BK158.out 3).trans rfl, (blk_cell BK158.out 4).trans rfl, (blk_cell BK158.out 5).trans rfl, hx167_0⟩ (fun hHeld => ?_); refine with_tabW spec_ParseModel.tab14 spec_ParseModel.bits14 (fun HT_ HW_ => ?_)
                       generalize w52.drew = w54 at HO_159003 HO_159004 HO_159005 HO_4 HO166 BK140 BK158 HR162 HB hx167_0 hHeld ⊢
                       refine pure_ (i := 0) (N := some 60) (v := ?_) (a' := ?_) #[true, false, false, false, false, false, false, false, false, false] rfl rfl (any_of HT_.out (by kernel_rfl)) (fun _ _ _ h => h) (Or.inl ⟨by rfl, ?_⟩) ?_ ?_
                       rotate_left
                       ·intro w'
                        go_simp
                        with_reducible rfl
                       rotate_left
                       ·simp only [Act.put, List.setIfInBounds_toArray, List.set_cons_zero, List.set_cons_succ, i64_w, i32_w]
                        rfl
                       refine pure_ (i := 2) (N := some 62) (v := ?_) (a' := ?_) #[true, false, true, false, false, false, false, false, false, false] rfl rfl (any_of HT_.out (by kernel_rfl)) (fun _ _ _ h => h) (Or.inl ⟨by rfl, ?_⟩) ?_ ?_
                       rotate_left
                       ·intro w'
                        go_simp
                        with_reducible rfl
                       rotate_left
                       ·simp only [Act.put, List.setIfInBounds_toArray, List.set_cons_zero, List.set_cons_succ, i64_w, i32_w]
                        rfl
                       refine pure_ (i := 3) (N := some 63) (v := ?_) (a' := ?_) #[true, false, true, true, false, false, false, false, false, false] rfl rfl (any_of HT_.out (by kernel_rfl)) (fun _ _ _ h => h) (Or.inl ⟨by rfl, ?_⟩) ?_ ?_
                       rotate_left
                       ·intro w'
                        go_simp
                        with_reducible rfl
                       rotate_left
                       ·simp only [Act.put, List.setIfInBounds_toArray, List.set_cons_zero, List.set_cons_succ, i64_w, i32_w]
                        rfl
                       refine take_ (i := 1) (N := some 61) (v := ?_) (a' := ?_) #[true, true, true, true, false, false, false, false, false, false] rfl rfl (take_ofW HT_.out HW_.out (by kernel_rfl)) (fun _ _ _ h => h) (Or.inl ⟨by rfl, ?_⟩) hHeld ?_ ?_
                       rotate_left
                       ·rintro w' ⟨s0, s1, s2, s3, s4, s5, s6⟩
                        go_simp
                        with_reducible rfl
                       rotate_left
                       ·simp only [Act.put, List.setIfInBounds_toArray, List.set_cons_zero, List.set_cons_succ, i64_w, i32_w]
                        rfl
                       refine take_ (i := 4) (N := some 64) (v := ?_) (a' := ?_) #[true, true, true, true, true, false, false, false, false, false] rfl rfl (take_ofW HT_.out HW_.out (by kernel_rfl)) (fun _ _ _ h => h) (Or.inl ⟨by rfl, ?_⟩) hHeld ?_ ?_
                       rotate_left
                       ·rintro w' ⟨s0, s1, s2, s3, s4, s5, s6⟩
                        go_simp
                        with_reducible rfl
                       rotate_left
                       ·simp only [Act.put, List.setIfInBounds_toArray, List.set_cons_zero, List.set_cons_succ, i64_w, i32_w]
                        rfl
                       refine one_ (i := 5) (N := some 65) #[true, true, true, true, true, true, false, false, false, false] rfl rfl (one_of HT_.out (by kernel_rfl)) (by decide) (fun K hK => ?_)
                       refine goes_ Tryd.func10 (by kernel_rfl) rfl #[.string (rdOf ByteArray.empty t164 0)] (by rfl) rfl rfl (by (try simp only [List.map_toArray, List.map_cons, List.map_nil]); first | done | rfl | (simp only [List.length_drop, List.length_take]; rfl)) ?_
                       with_reducible refine (spec_l1Read.calls k2 (rdOf ByteArray.empty t164 0) t168 _ A44.out).mono ?_
                       rintro e w' ⟨rfl, ⟨nd, rfl⟩⟩
                       refine ⟨_, rfl, ?_⟩
                       refine hK.out _ _ ⟨(blk_cell BK158.out 0).trans rfl, (blk_cell BK158.out 1).trans rfl, (blk_cell BK158.out 2).trans rfl, (blk_cell BK158.out 3).trans rfl, (blk_cell BK158.out 4).trans rfl, (blk_cell BK158.out 5).trans rfl, hHeld.2.2.2.2.2.2⟩ (fun hHeld => ?_)
                       clear hK K
                       refine norm_ (a' := ?_) ?_ ?_
                       rotate_left
                       ·show Act.put _ (some 65) _ = _
                        simp only [Act.put, List.setIfInBounds_toArray, List.set_cons_zero, List.set_cons_succ, i64_w, i32_w]
                        rfl
                       refine one_ (i := 6) (N := some 66) #[true, true, true, true, true, true, true, false, false, false] rfl rfl (one_of HT_.out (by kernel_rfl)) (by decide) (fun K hK => ?_)
                       refine value_ (w1 := ?_) (v := ?_) (by rfl) rfl ?_ ?_
                       rotate_left 2
                       ·go_simp
                        constructor
                        ·rfl
                        ·rfl
                       refine hK.out _ _ ⟨(blk_cell (blk_alloc BK158.out _) 0).trans rfl, (blk_cell (blk_alloc BK158.out _) 1).trans rfl, (blk_cell (blk_alloc BK158.out _) 2).trans rfl, (blk_cell (blk_alloc BK158.out _) 3).trans rfl, (blk_cell (blk_alloc BK158.out _) 4).trans rfl, (blk_cell (blk_alloc BK158.out _) 5).trans rfl, (World.cell?_alloc_lt _ _ _ (World.block_lt_of_cell? _ _ (hHeld.2.2.2.2.2.2))).trans (hHeld.2.2.2.2.2.2)⟩ (fun hHeld => ?_)
                       clear hK K
                       refine norm_ (a' := ?_) ?_ ?_
                       rotate_left
                       ·show Act.put _ (some 66) _ = _
                        simp only [Act.put, List.setIfInBounds_toArray, List.set_cons_zero, List.set_cons_succ, i64_w, i32_w]
                        rfl
                       refine last_ (i := 7) (N := some 67) #[true, true, true, true, true, true, true, true, false, false] rfl rfl (one_of HT_.out (by kernel_rfl)) (by decide) (fun K hK => ?_)
                       refine Kd.R_append_step (Kd.int .i64) (w0 := w) w.heap.size (by rfl) (.tmp 61) (.tmp 66) 24 3 (.int .i64 0) 8 rfl Tryd.underlying24 info3 rfl (by decide) (by omega) u159003 x159003_2 t168 [.int .i64 t168] (fun k_ => some k_ ≠ (u159004 : Value).ownBlock ∧ some k_ ≠ (u159005 : Value).ownBlock) (fun _ => False) rfl rfl ?aP (fun _ hk => hk.elim) ?aF ?aO ?aB ?aS ?aL ?_
                       (case aP => exact rfl)
                       (case aB => exact (hb_ HB))
                       (case aF => exact (fun k_ hk => ⟨Kd.fresh' (Kd.R_lt (Kd.R_p HO_159004)) k_ hk, Kd.fresh' (Kd.R_lt (Kd.R_p HO_159005)) k_ hk⟩))
                       (case aO => exact (Kd.R_p HO_159003))
                       (case aS => exact (below_size (hb_ HB)))
                       (case aL => have := LMc45.out; omega)
                       intro v170 w55 ho hb hg hat
                       rw [← Ny169.out] at ho
                       have n0_ := Aside0.mk (Kd.R_after (ok := (fun k_ => some k_ ≠ (u159005 : Value).ownBlock)) (Kd.R_pp (Kd.R_mono HO_159004.out (fun _ hk => ⟨hk.2, hk.1⟩))) hg hat)
                       have n1_ := Aside0.mk (Kd.R_after (ok := (fun k_ => some k_ ≠ (u159004 : Value).ownBlock)) (Kd.R_pp (Kd.R_mono HO_159005.out (fun _ hk => ⟨hk.2, hk.1⟩))) hg hat)
                       have n2_ := Aside0.mk (blk_grown (kp_ BK140) hg (Kd.R_ne HO_159003.out BK140.out (by decide)))
                       have n3_ := Aside0.mk (blk_grown (kp_ BK158) hg (Kd.R_ne HO_159003.out BK158.out (by decide)))
                       have n4_ := Aside0.mk (Kd.R_over' (Kd.R_p HO_4) (Kd.R_typed (Kd.R_p HO_159003)) (by decide) hg)
                       have n5_ := Aside0.mk (Kd.R_over' (Kd.R_p HO166) (Kd.R_typed (Kd.R_p HO_159003)) (by decide) hg)
                       have n6_ := Aside0.mk (hb)
                       have n7_ := Aside0.mk ((show Kd.C Kd.string w55 (some ad163) y159.length y159 from by rw [Ny159.out, KA37.out]; exact Kd.C_drop (m := 1) (c := co8) ((Kd.R_reads' (Kd.R_over' (Kd.R_p HO_4) (Kd.R_typed (Kd.R_p HO_159003)) (by decide) hg)).2.2) KL37.out ((Kd.R_reads' (Kd.R_over' (Kd.R_p HO_4) (Kd.R_typed (Kd.R_p HO_159003)) (by decide) hg)).2.1)))
                       have n8_ := Aside0.mk (ho)
                       clear HO_159004
                       clear HO_159005
                       clear BK140
                       clear BK158
                       clear HO_4
                       clear HO166
                       clear HB
                       clear HR162
                       clear HO_159003
                       have HO_159004 := n0_
                       have HO_159005 := n1_
                       have BK140 := n2_
                       have BK158 := n3_
                       have HO_4 := n4_
                       have HO166 := n5_
                       have HB := n6_
                       have HR162 := n7_
                       have HO171 := n8_
                       clear n0_ n1_ n2_ n3_ n4_ n5_ n6_ n7_ n8_
                       clear ho hb hg hat
                       obtain ⟨Ao56, co56, eo56⟩ := Kd.R_slice HO171.out
                       (first | subst eo56 | (injection eo56 with f1_ f2_ f3_; have f4_ := f1_.symm; have f5_ := f3_.symm; clear f1_ f2_ f3_; subst f4_; subst f5_))
                       refine hK.out _ _ ?_
                       clear hK K
                       refine norm_ (a' := ?_) ?_ ?_
                       rotate_left
                       ·show Act.put _ (some 67) _ = _
                        simp only [Act.put, List.setIfInBounds_toArray, List.set_cons_zero, List.set_cons_succ, i64_w, i32_w]
                        rfl
                       refine pure_ (i := 8) (N := some 68) (v := ?_) (a' := ?_) #[true, true, true, true, true, true, true, true, true, false] rfl rfl (any_of HT_.out (by kernel_rfl)) (fun _ _ _ h => h) (Or.inl ⟨by rfl, ?_⟩) ?_ ?_
                       rotate_left
                       ·intro w'
                        go_simp
                        with_reducible rfl
                       rotate_left
                       ·simp only [Act.put, List.setIfInBounds_toArray, List.set_cons_zero, List.set_cons_succ, i64_w, i32_w]
                        rfl
                       refine last_ (i := 9) (N := none) #[true, true, true, true, true, true, true, true, true, true] rfl rfl (one_of HT_.out (by kernel_rfl)) (by decide) (fun K hK => ?_)
                       have hs57 : w55.cell? ⟨gb158, 3, none⟩ = some (u159003) := (blk_cell BK158.out 3).trans rfl
                       have hfs57 := blk_frozen BK158.out 3
                       have hns57_0 := NB140_158.out
                       have hms57_0 := NB158_140.out
                       refine skip_ (w1 := ?_) (by rfl) rfl ?_ ?_
                       rotate_left
                       ·go_simp
                        rfl
                       refine hK.out _ _ ?_
                       clear hK K
                       refine done_ (done_of HT_.out (by kernel_rfl)) ?_
                       try go_wp2
                       have n0_ : Aside0 (Kd.R (Kd.int .i64) 3 (w55.setCell ⟨gb158, 3, none⟩ (.slice Ao56 y169.length co56)) w.heap.size (fun k_ => some k_ ≠ (u159005 : Value).ownBlock ∧ some k_ ≠ (.slice Ao56 y169.length co56 : Value).ownBlock) u159004 x159004_2) := ⟨Kd.R_mono (Kd.R_s HO_159004 BK158) (fun _ hk => ⟨hk.1, hk.2⟩)⟩
                       have n1_ : Aside0 (Kd.R (Kd.int .i64) 3 (w55.setCell ⟨gb158, 3, none⟩ (.slice Ao56 y169.length co56)) w.heap.size (fun k_ => some k_ ≠ (u159004 : Value).ownBlock ∧ some k_ ≠ (.slice Ao56 y169.length co56 : Value).ownBlock) u159005 x159005_2) := ⟨Kd.R_mono (Kd.R_s HO_159005 BK158) (fun _ hk => ⟨hk.1, hk.2⟩)⟩
                       have n2_ : Aside0 (Kd.R Kd.string 9 (w55.setCell ⟨gb158, 3, none⟩ (.slice Ao56 y169.length co56)) w.heap.size (fun k_ => some k_ ≠ (.slice (some ad167) t164.length co53 : Value).ownBlock) (.slice (some ad144) t141.length co8) t141) := ⟨Kd.R_mono (Kd.R_s HO_4 BK158) (fun _ hk => hk.2)⟩
                       have n3_ : Aside0 (Kd.R Kd.string 9 (w55.setCell ⟨gb158, 3, none⟩ (.slice Ao56 y169.length co56)) w.heap.size (fun k_ => some k_ ≠ (.slice (some ad144) t141.length co8 : Value).ownBlock) (.slice (some ad167) t164.length co53) t164) := ⟨Kd.R_mono (Kd.R_s HO166 BK158) (fun _ hk => hk.2)⟩
                       have n4_ : Aside0 (Kd.R (Kd.int .i64) 3 (w55.setCell ⟨gb158, 3, none⟩ (.slice Ao56 y169.length co56)) w.heap.size (fun k_ => some k_ ≠ (u159004 : Value).ownBlock ∧ some k_ ≠ (u159005 : Value).ownBlock) (.slice Ao56 y169.length co56) y169) := ⟨Kd.R_mono (Kd.R_s HO171 BK158) (fun _ hk => ⟨hk.1, hk.2⟩)⟩
                       have n5_ : Aside0 ((w55.setCell ⟨gb158, 3, none⟩ (.slice Ao56 y169.length co56)).heap[gb140]? = some (.cells #[.int .i64 0, .int .i64 0, .int .i64 0, .slice none 0 0, .slice none 0 0, .slice none 0 0] 26 (0, 0))) := ⟨kf_ BK140 NB140_158⟩
                       have n6_ : Aside0 ((w55.setCell ⟨gb158, 3, none⟩ (.slice Ao56 y169.length co56)).heap[gb158]? = some (.cells #[.int .i64 t153, .int .i64 t155, .int .i64 t157, .slice Ao56 y169.length co56, u159004, u159005] 26 (0, 0))) := ⟨kpq_ (kputs BK158 [(3, _)])⟩
                       have n7_ : Aside0 (Below w.heap.size w (w55.setCell ⟨gb158, 3, none⟩ (.slice Ao56 y169.length co56))) := ⟨hb_ HB⟩
                       (try clear HO_159004)
                       (try clear HO_159005)
                       (try clear HO_4)
                       (try clear HO166)
                       (try clear HO171)
                       (try clear BK140)
                       (try clear BK158)
                       (try clear HB)
                       generalize (w55.setCell ⟨gb158, 3, none⟩ (.slice Ao56 y169.length co56)) = w58 at n0_ n1_ n2_ n3_ n4_ n5_ n6_ n7_ ⊢
                       have HO_159004 := n0_
                       have HO_159005 := n1_
                       have HO_4 := n2_
                       have HO166 := n3_
                       have HO171 := n4_
                       have BK140 := n5_
                       have BK158 := n6_
                       have HB := n7_
                       clear n0_ n1_ n2_ n3_ n4_ n5_ n6_ n7_
                       have n0_ := Aside0.mk (Kd.R_drew HO_159004.out)
                       have n1_ := Aside0.mk (Kd.R_drew HO_159005.out)
                       have n2_ := Aside0.mk (Kd.R_drew HO_4.out)
                       have n3_ := Aside0.mk (Kd.R_drew HO166.out)
                       have n4_ := Aside0.mk (Kd.R_drew HO171.out)
                       have n5_ := Aside0.mk (blk_drew BK140.out)
                       have n6_ := Aside0.mk (blk_drew BK158.out)
                       have n7_ := Aside0.mk (below_drew1 HB.out)
                       clear HO_159004
                       clear HO_159005
                       clear HO_4
                       clear HO166
                       clear HO171
                       clear BK140
                       clear BK158
                       clear HB
                       have HO_159004 := n0_
                       have HO_159005 := n1_
                       have HO_4 := n2_
                       have HO166 := n3_
                       have HO171 := n4_
                       have BK140 := n5_
                       have BK158 := n6_
                       have HB := n7_
                       clear n0_ n1_ n2_ n3_ n4_ n5_ n6_ n7_
                       have p172 : 0 ≤ (1 : Int) := (by omega)
                       have q172 : 1 < (t164.length : Int) := of_decide_eq_true (by first | (with_reducible assumption) | assumption)
                       obtain ⟨ad172, e172, hx172_0⟩ := Kd.at_string (Kd.R_reads' HO166.out).2.2 1 p172 q172
                       obtain rfl : ad167 = ad172 := (by injection e172)
                       (try simp only [show (1 : Int).toNat = 1 from rfl, Nat.reduceMul, Nat.reduceEqDiff, Go.Addr.add, ↓reduceIte] at hx172_0)
                       have qi172 : (1 < t164.length) = True := eq_true (by omega)
                       (try rw [show ((1 : Int)).toNat = 1 from rfl] at hx172_0)
                       replace p172 := eq_true p172
                       replace q172 := eq_true q172
                       refine start_ (n := 10) (S := fun w' => w'.cell? ⟨gb158, 0, none⟩ = some (.int .i64 t153) ∧ w'.cell? ⟨gb158, 1, none⟩ = some (.int .i64 t155) ∧ w'.cell? ⟨gb158, 2, none⟩ = some (.int .i64 t157) ∧ w'.cell? ⟨gb158, 3, none⟩ = some (.slice Ao56 y169.length co56) ∧ w'.cell? ⟨gb158, 4, none⟩ = some (u159004) ∧ w'.cell? ⟨gb158, 5, none⟩ = some (u159005) ∧ w'.cell? ⟨ad167.block, ad167.off + 1, none⟩ = some (.string (rdOf ByteArray.empty t164 1))) (ds := [7, 9]) #[false, false, false, false, false, false, false, false, false, false] (by kernel_rfl) rfl rfl ⟨(blk_cell BK158.out 0).trans rfl, (blk_cell BK158.out 1).trans rfl, (blk_cell BK158.out 2).trans rfl, (blk_cell BK158.out 3).trans rfl, (blk_cell BK158.out 4).trans rfl, (blk_cell BK158.out 5).trans rfl, hx172_0⟩ (fun hHeld => ?_); refine with_tabW spec_ParseModel.tab15 spec_ParseModel.bits15 (fun HT_ HW_ => ?_)
                       generalize w58.drew = w59 at HO_159004 HO_159005 HO_4 HO166 HO171 BK140 BK158 HB hx172_0 hHeld ⊢
                       refine pure_ (i := 0) (N := some 69) (v := ?_) (a' := ?_) #[true, false, false, false, false, false, false, false, false, false] rfl rfl (any_of HT_.out (by kernel_rfl)) (fun _ _ _ h => h) (Or.inl ⟨by rfl, ?_⟩) ?_ ?_
                       rotate_left
                       ·intro w'
                        go_simp
                        with_reducible rfl
                       rotate_left
                       ·simp only [Act.put, List.setIfInBounds_toArray, List.set_cons_zero, List.set_cons_succ, i64_w, i32_w]
                        rfl
                       refine pure_ (i := 2) (N := some 71) (v := ?_) (a' := ?_) #[true, false, true, false, false, false, false, false, false, false] rfl rfl (any_of HT_.out (by kernel_rfl)) (fun _ _ _ h => h) (Or.inl ⟨by rfl, ?_⟩) ?_ ?_
                       rotate_left
                       ·intro w'
                        go_simp
                        with_reducible rfl
                       rotate_left
                       ·simp only [Act.put, List.setIfInBounds_toArray, List.set_cons_zero, List.set_cons_succ, i64_w, i32_w]
                        rfl
                       refine pure_ (i := 3) (N := some 72) (v := ?_) (a' := ?_) #[true, false, true, true, false, false, false, false, false, false] rfl rfl (any_of HT_.out (by kernel_rfl)) (fun _ _ _ h => h) (Or.inl ⟨by rfl, ?_⟩) ?_ ?_
                       rotate_left
                       ·intro w'
                        go_simp
                        with_reducible rfl
                       rotate_left
                       ·simp only [Act.put, List.setIfInBounds_toArray, List.set_cons_zero, List.set_cons_succ, i64_w, i32_w]
                        rfl
                       refine take_ (i := 1) (N := some 70) (v := ?_) (a' := ?_) #[true, true, true, true, false, false, false, false, false, false] rfl rfl (take_ofW HT_.out HW_.out (by kernel_rfl)) (fun _ _ _ h => h) (Or.inl ⟨by rfl, ?_⟩) hHeld ?_ ?_
                       rotate_left
                       ·rintro w' ⟨s0, s1, s2, s3, s4, s5, s6⟩
                        go_simp
                        with_reducible rfl
                       rotate_left
                       ·simp only [Act.put, List.setIfInBounds_toArray, List.set_cons_zero, List.set_cons_succ, i64_w, i32_w]
                        rfl
                       refine take_ (i := 4) (N := some 73) (v := ?_) (a' := ?_) #[true, true, true, true, true, false, false, false, false, false] rfl rfl (take_ofW HT_.out HW_.out (by kernel_rfl)) (fun _ _ _ h => h) (Or.inl ⟨by rfl, ?_⟩) hHeld ?_ ?_
                       rotate_left
                       ·rintro w' ⟨s0, s1, s2, s3, s4, s5, s6⟩
                        go_simp
                        with_reducible rfl
                       rotate_left
                       ·simp only [Act.put, List.setIfInBounds_toArray, List.set_cons_zero, List.set_cons_succ, i64_w, i32_w]
                        rfl
                       refine one_ (i := 5) (N := some 74) #[true, true, true, true, true, true, false, false, false, false] rfl rfl (one_of HT_.out (by kernel_rfl)) (by decide) (fun K hK => ?_)
                       refine goes_ Tryd.func10 (by kernel_rfl) rfl #[.string (rdOf ByteArray.empty t164 1)] (by rfl) rfl rfl (by (try simp only [List.map_toArray, List.map_cons, List.map_nil]); first | done | rfl | (simp only [List.length_drop, List.length_take]; rfl)) ?_
                       with_reducible refine (spec_l1Read.calls k2 (rdOf ByteArray.empty t164 1) t173 _ A47.out).mono ?_
                       rintro e w' ⟨rfl, ⟨nd, rfl⟩⟩
                       refine ⟨_, rfl, ?_⟩
                       refine hK.out _ _ ⟨(blk_cell BK158.out 0).trans rfl, (blk_cell BK158.out 1).trans rfl, (blk_cell BK158.out 2).trans rfl, (blk_cell BK158.out 3).trans rfl, (blk_cell BK158.out 4).trans rfl, (blk_cell BK158.out 5).trans rfl, hHeld.2.2.2.2.2.2⟩ (fun hHeld => ?_)
                       clear hK K
                       refine norm_ (a' := ?_) ?_ ?_
                       rotate_left
                       ·show Act.put _ (some 74) _ = _
                        simp only [Act.put, List.setIfInBounds_toArray, List.set_cons_zero, List.set_cons_succ, i64_w, i32_w]
                        rfl
                       refine one_ (i := 6) (N := some 75) #[true, true, true, true, true, true, true, false, false, false] rfl rfl (one_of HT_.out (by kernel_rfl)) (by decide) (fun K hK => ?_)
                       refine value_ (w1 := ?_) (v := ?_) (by rfl) rfl ?_ ?_
                       rotate_left 2
                       ·go_simp
                        constructor
                        ·rfl
                        ·rfl
                       refine hK.out _ _ ⟨(blk_cell (blk_alloc BK158.out _) 0).trans rfl, (blk_cell (blk_alloc BK158.out _) 1).trans rfl, (blk_cell (blk_alloc BK158.out _) 2).trans rfl, (blk_cell (blk_alloc BK158.out _) 3).trans rfl, (blk_cell (blk_alloc BK158.out _) 4).trans rfl, (blk_cell (blk_alloc BK158.out _) 5).trans rfl, (World.cell?_alloc_lt _ _ _ (World.block_lt_of_cell? _ _ (hHeld.2.2.2.2.2.2))).trans (hHeld.2.2.2.2.2.2)⟩ (fun hHeld => ?_)
                       clear hK K
                       refine norm_ (a' := ?_) ?_ ?_
                       rotate_left
                       ·show Act.put _ (some 75) _ = _
                        simp only [Act.put, List.setIfInBounds_toArray, List.set_cons_zero, List.set_cons_succ, i64_w, i32_w]
                        rfl
                       refine last_ (i := 7) (N := some 76) #[true, true, true, true, true, true, true, true, false, false] rfl rfl (one_of HT_.out (by kernel_rfl)) (by decide) (fun K hK => ?_)
                       refine Kd.R_append_step (Kd.int .i64) (w0 := w) w.heap.size (by rfl) (.tmp 70) (.tmp 75) 24 3 (.int .i64 0) 8 rfl Tryd.underlying24 info3 rfl (by decide) (by omega) u159004 x159004_2 t173 [.int .i64 t173] (fun k_ => some k_ ≠ (u159005 : Value).ownBlock ∧ some k_ ≠ (.slice Ao56 y169.length co56 : Value).ownBlock) (fun _ => False) rfl rfl ?aP (fun _ hk => hk.elim) ?aF ?aO ?aB ?aS ?aL ?_
                       (case aP => exact rfl)
                       (case aB => exact (hb_ HB))
                       (case aF => exact (fun k_ hk => ⟨Kd.fresh' (Kd.R_lt (Kd.R_p HO_159005)) k_ hk, Kd.fresh' (Kd.R_lt (Kd.R_p HO171)) k_ hk⟩))
                       (case aO => exact (Kd.R_p HO_159004))
                       (case aS => exact (below_size (hb_ HB)))
                       (case aL => have := LMc48.out; omega)
                       intro v175 w60 ho hb hg hat
                       rw [← Ny174.out] at ho
                       have n0_ := Aside0.mk (Kd.R_after (ok := (fun k_ => some k_ ≠ (.slice Ao56 y169.length co56 : Value).ownBlock)) (Kd.R_pp (Kd.R_mono HO_159005.out (fun _ hk => ⟨hk.2, hk.1⟩))) hg hat)
                       have n1_ := Aside0.mk (blk_grown (kp_ BK140) hg (Kd.R_ne HO_159004.out BK140.out (by decide)))
                       have n2_ := Aside0.mk (blk_grown (kp_ BK158) hg (Kd.R_ne HO_159004.out BK158.out (by decide)))
                       have n3_ := Aside0.mk (Kd.R_over' (Kd.R_p HO_4) (Kd.R_typed (Kd.R_p HO_159004)) (by decide) hg)
                       have n4_ := Aside0.mk (Kd.R_over' (Kd.R_p HO166) (Kd.R_typed (Kd.R_p HO_159004)) (by decide) hg)
                       have n5_ := Aside0.mk (Kd.R_after (ok := (fun k_ => some k_ ≠ (u159005 : Value).ownBlock)) (Kd.R_pp (Kd.R_mono HO171.out (fun _ hk => ⟨hk.2, hk.1⟩))) hg hat)
                       have n6_ := Aside0.mk (hb)
                       have n7_ := Aside0.mk (ho)
                       clear HO_159005
                       clear BK140
                       clear BK158
                       clear HO_4
                       clear HO166
                       clear HO171
                       clear HB
                       clear HO_159004
                       have HO_159005 := n0_
                       have BK140 := n1_
                       have BK158 := n2_
                       have HO_4 := n3_
                       have HO166 := n4_
                       have HO171 := n5_
                       have HB := n6_
                       have HO176 := n7_
                       clear n0_ n1_ n2_ n3_ n4_ n5_ n6_ n7_
                       clear ho hb hg hat
                       obtain ⟨Ao61, co61, eo61⟩ := Kd.R_slice HO176.out
                       (first | subst eo61 | (injection eo61 with f1_ f2_ f3_; have f4_ := f1_.symm; have f5_ := f3_.symm; clear f1_ f2_ f3_; subst f4_; subst f5_))
                       refine hK.out _ _ ?_
                       clear hK K
                       refine norm_ (a' := ?_) ?_ ?_
                       rotate_left
                       ·show Act.put _ (some 76) _ = _
                        simp only [Act.put, List.setIfInBounds_toArray, List.set_cons_zero, List.set_cons_succ, i64_w, i32_w]
                        rfl
                       refine pure_ (i := 8) (N := some 77) (v := ?_) (a' := ?_) #[true, true, true, true, true, true, true, true, true, false] rfl rfl (any_of HT_.out (by kernel_rfl)) (fun _ _ _ h => h) (Or.inl ⟨by rfl, ?_⟩) ?_ ?_
                       rotate_left
                       ·intro w'
                        go_simp
                        with_reducible rfl
                       rotate_left
                       ·simp only [Act.put, List.setIfInBounds_toArray, List.set_cons_zero, List.set_cons_succ, i64_w, i32_w]
                        rfl
                       refine last_ (i := 9) (N := none) #[true, true, true, true, true, true, true, true, true, true] rfl rfl (one_of HT_.out (by kernel_rfl)) (by decide) (fun K hK => ?_)
                       have hs62 : w60.cell? ⟨gb158, 4, none⟩ = some (u159004) := (blk_cell BK158.out 4).trans rfl
                       have hfs62 := blk_frozen BK158.out 4
                       have hns62_0 := NB140_158.out
                       have hms62_0 := NB158_140.out
                       refine skip_ (w1 := ?_) (by rfl) rfl ?_ ?_
                       rotate_left
                       ·go_simp
                        rfl
                       refine hK.out _ _ ?_
                       clear hK K
                       refine done_ (done_of HT_.out (by kernel_rfl)) ?_
                       try go_wp2
                       have n0_ : Aside0 (Kd.R (Kd.int .i64) 3 (w60.setCell ⟨gb158, 4, none⟩ (.slice Ao61 y174.length co61)) w.heap.size (fun k_ => some k_ ≠ (.slice Ao56 y169.length co56 : Value).ownBlock ∧ some k_ ≠ (.slice Ao61 y174.length co61 : Value).ownBlock) u159005 x159005_2) := ⟨Kd.R_mono (Kd.R_s HO_159005 BK158) (fun _ hk => ⟨hk.1, hk.2⟩)⟩
                       have n1_ : Aside0 (Kd.R Kd.string 9 (w60.setCell ⟨gb158, 4, none⟩ (.slice Ao61 y174.length co61)) w.heap.size (fun k_ => some k_ ≠ (.slice (some ad167) t164.length co53 : Value).ownBlock) (.slice (some ad144) t141.length co8) t141) := ⟨Kd.R_s HO_4 BK158⟩
                       have n2_ : Aside0 (Kd.R Kd.string 9 (w60.setCell ⟨gb158, 4, none⟩ (.slice Ao61 y174.length co61)) w.heap.size (fun k_ => some k_ ≠ (.slice (some ad144) t141.length co8 : Value).ownBlock) (.slice (some ad167) t164.length co53) t164) := ⟨Kd.R_s HO166 BK158⟩
                       have n3_ : Aside0 (Kd.R (Kd.int .i64) 3 (w60.setCell ⟨gb158, 4, none⟩ (.slice Ao61 y174.length co61)) w.heap.size (fun k_ => some k_ ≠ (u159005 : Value).ownBlock ∧ some k_ ≠ (.slice Ao61 y174.length co61 : Value).ownBlock) (.slice Ao56 y169.length co56) y169) := ⟨Kd.R_mono (Kd.R_s HO171 BK158) (fun _ hk => ⟨hk.1, hk.2⟩)⟩
                       have n4_ : Aside0 (Kd.R (Kd.int .i64) 3 (w60.setCell ⟨gb158, 4, none⟩ (.slice Ao61 y174.length co61)) w.heap.size (fun k_ => some k_ ≠ (u159005 : Value).ownBlock ∧ some k_ ≠ (.slice Ao56 y169.length co56 : Value).ownBlock) (.slice Ao61 y174.length co61) y174) := ⟨Kd.R_mono (Kd.R_s HO176 BK158) (fun _ hk => ⟨hk.1, hk.2⟩)⟩
                       have n5_ : Aside0 ((w60.setCell ⟨gb158, 4, none⟩ (.slice Ao61 y174.length co61)).heap[gb140]? = some (.cells #[.int .i64 0, .int .i64 0, .int .i64 0, .slice none 0 0, .slice none 0 0, .slice none 0 0] 26 (0, 0))) := ⟨kf_ BK140 NB140_158⟩
                       have n6_ : Aside0 ((w60.setCell ⟨gb158, 4, none⟩ (.slice Ao61 y174.length co61)).heap[gb158]? = some (.cells #[.int .i64 t153, .int .i64 t155, .int .i64 t157, .slice Ao56 y169.length co56, .slice Ao61 y174.length co61, u159005] 26 (0, 0))) := ⟨kpq_ (kputs BK158 [(4, _)])⟩
                       have n7_ : Aside0 (Below w.heap.size w (w60.setCell ⟨gb158, 4, none⟩ (.slice Ao61 y174.length co61))) := ⟨hb_ HB⟩
                       (try clear HO_159005)
                       (try clear HO_4)
                       (try clear HO166)
                       (try clear HO171)
                       (try clear HO176)
                       (try clear BK140)
                       (try clear BK158)
                       (try clear HB)
                       generalize (w60.setCell ⟨gb158, 4, none⟩ (.slice Ao61 y174.length co61)) = w63 at n0_ n1_ n2_ n3_ n4_ n5_ n6_ n7_ ⊢
                       have HO_159005 := n0_
                       have HO_4 := n1_
                       have HO166 := n2_
                       have HO171 := n3_
                       have HO176 := n4_
                       have BK140 := n5_
                       have BK158 := n6_
                       have HB := n7_
                       clear n0_ n1_ n2_ n3_ n4_ n5_ n6_ n7_
                       have n0_ := Aside0.mk (Kd.R_drew HO_159005.out)
                       have n1_ := Aside0.mk (Kd.R_drew HO_4.out)
                       have n2_ := Aside0.mk (Kd.R_drew HO166.out)
                       have n3_ := Aside0.mk (Kd.R_drew HO171.out)
                       have n4_ := Aside0.mk (Kd.R_drew HO176.out)
                       have n5_ := Aside0.mk (blk_drew BK140.out)
                       have n6_ := Aside0.mk (blk_drew BK158.out)
                       have n7_ := Aside0.mk (below_drew1 HB.out)
                       clear HO_159005
                       clear HO_4
                       clear HO166
                       clear HO171
                       clear HO176
                       clear BK140
                       clear BK158
                       clear HB
                       have HO_159005 := n0_
                       have HO_4 := n1_
                       have HO166 := n2_
                       have HO171 := n3_
                       have HO176 := n4_
                       have BK140 := n5_
                       have BK158 := n6_
                       have HB := n7_
                       clear n0_ n1_ n2_ n3_ n4_ n5_ n6_ n7_
                       have p177 : 0 ≤ (2 : Int) := (by omega)
                       have q177 : 2 < (t164.length : Int) := of_decide_eq_true (by first | (with_reducible assumption) | assumption)
                       obtain ⟨ad177, e177, hx177_0⟩ := Kd.at_string (Kd.R_reads' HO166.out).2.2 2 p177 q177
                       obtain rfl : ad167 = ad177 := (by injection e177)
                       (try simp only [show (2 : Int).toNat = 2 from rfl, Nat.reduceMul, Nat.reduceEqDiff, Go.Addr.add, ↓reduceIte] at hx177_0)
                       have qi177 : (2 < t164.length) = True := eq_true (by omega)
                       (try rw [show ((2 : Int)).toNat = 2 from rfl] at hx177_0)
                       replace p177 := eq_true p177
                       replace q177 := eq_true q177
                       refine start_ (n := 10) (S := fun w' => w'.cell? ⟨gb158, 0, none⟩ = some (.int .i64 t153) ∧ w'.cell? ⟨gb158, 1, none⟩ = some (.int .i64 t155) ∧ w'.cell? ⟨gb158, 2, none⟩ = some (.int .i64 t157) ∧ w'.cell? ⟨gb158, 3, none⟩ = some (.slice Ao56 y169.length co56) ∧ w'.cell? ⟨gb158, 4, none⟩ = some (.slice Ao61 y174.length co61) ∧ w'.cell? ⟨gb158, 5, none⟩ = some (u159005) ∧ w'.cell? ⟨ad167.block, ad167.off + 2, none⟩ = some (.string (rdOf ByteArray.empty t164 2))) (ds := [7, 9]) #[false, false, false, false, false, false, false, false, false, false] (by kernel_rfl) rfl rfl ⟨(blk_cell BK158.out 0).trans rfl, (blk_cell BK158.out 1).trans rfl, (blk_cell BK158.out 2).trans rfl, (blk_cell BK158.out 3).trans rfl, (blk_cell BK158.out 4).trans rfl, (blk_cell BK158.out 5).trans rfl, hx177_0⟩ (fun hHeld => ?_); refine with_tabW spec_ParseModel.tab16 spec_ParseModel.bits16 (fun HT_ HW_ => ?_)
                       generalize w63.drew = w64 at HO_159005 HO_4 HO166 HO171 HO176 BK140 BK158 HB hx177_0 hHeld ⊢
                       refine pure_ (i := 0) (N := some 78) (v := ?_) (a' := ?_) #[true, false, false, false, false, false, false, false, false, false] rfl rfl (any_of HT_.out (by kernel_rfl)) (fun _ _ _ h => h) (Or.inl ⟨by rfl, ?_⟩) ?_ ?_
                       rotate_left
                       ·intro w'
                        go_simp
                        with_reducible rfl
                       rotate_left
                       ·simp only [Act.put, List.setIfInBounds_toArray, List.set_cons_zero, List.set_cons_succ, i64_w, i32_w]
                        rfl
                       refine pure_ (i := 2) (N := some 80) (v := ?_) (a' := ?_) #[true, false, true, false, false, false, false, false, false, false] rfl rfl (any_of HT_.out (by kernel_rfl)) (fun _ _ _ h => h) (Or.inl ⟨by rfl, ?_⟩) ?_ ?_
                       rotate_left
                       ·intro w'
                        go_simp
                        with_reducible rfl
                       rotate_left
                       ·simp only [Act.put, List.setIfInBounds_toArray, List.set_cons_zero, List.set_cons_succ, i64_w, i32_w]
                        rfl
                       refine pure_ (i := 3) (N := some 81) (v := ?_) (a' := ?_) #[true, false, true, true, false, false, false, false, false, false] rfl rfl (any_of HT_.out (by kernel_rfl)) (fun _ _ _ h => h) (Or.inl ⟨by rfl, ?_⟩) ?_ ?_
                       rotate_left
                       ·intro w'
                        go_simp
                        with_reducible rfl
                       rotate_left
                       ·simp only [Act.put, List.setIfInBounds_toArray, List.set_cons_zero, List.set_cons_succ, i64_w, i32_w]
                        rfl
                       refine take_ (i := 1) (N := some 79) (v := ?_) (a' := ?_) #[true, true, true, true, false, false, false, false, false, false] rfl rfl (take_ofW HT_.out HW_.out (by kernel_rfl)) (fun _ _ _ h => h) (Or.inl ⟨by rfl, ?_⟩) hHeld ?_ ?_
                       rotate_left
                       ·rintro w' ⟨s0, s1, s2, s3, s4, s5, s6⟩
                        go_simp
                        with_reducible rfl
                       rotate_left
                       ·simp only [Act.put, List.setIfInBounds_toArray, List.set_cons_zero, List.set_cons_succ, i64_w, i32_w]
                        rfl
                       refine take_ (i := 4) (N := some 82) (v := ?_) (a' := ?_) #[true, true, true, true, true, false, false, false, false, false] rfl rfl (take_ofW HT_.out HW_.out (by kernel_rfl)) (fun _ _ _ h => h) (Or.inl ⟨by rfl, ?_⟩) hHeld ?_ ?_
                       rotate_left
                       ·rintro w' ⟨s0, s1, s2, s3, s4, s5, s6⟩
                        go_simp
                        with_reducible rfl
                       rotate_left
                       ·simp only [Act.put, List.setIfInBounds_toArray, List.set_cons_zero, List.set_cons_succ, i64_w, i32_w]
                        rfl
                       refine one_ (i := 5) (N := some 83) #[true, true, true, true, true, true, false, false, false, false] rfl rfl (one_of HT_.out (by kernel_rfl)) (by decide) (fun K hK => ?_)
                       refine goes_ Tryd.func10 (by kernel_rfl) rfl #[.string (rdOf ByteArray.empty t164 2)] (by rfl) rfl rfl (by (try simp only [List.map_toArray, List.map_cons, List.map_nil]); first | done | rfl | (simp only [List.length_drop, List.length_take]; rfl)) ?_
                       with_reducible refine (spec_l1Read.calls k2 (rdOf ByteArray.empty t164 2) t178 _ A50.out).mono ?_
                       rintro e w' ⟨rfl, ⟨nd, rfl⟩⟩
                       refine ⟨_, rfl, ?_⟩
                       refine hK.out _ _ ⟨(blk_cell BK158.out 0).trans rfl, (blk_cell BK158.out 1).trans rfl, (blk_cell BK158.out 2).trans rfl, (blk_cell BK158.out 3).trans rfl, (blk_cell BK158.out 4).trans rfl, (blk_cell BK158.out 5).trans rfl, hHeld.2.2.2.2.2.2⟩ (fun hHeld => ?_)
                       clear hK K
                       refine norm_ (a' := ?_) ?_ ?_
                       rotate_left
                       ·show Act.put _ (some 83) _ = _
                        simp only [Act.put, List.setIfInBounds_toArray, List.set_cons_zero, List.set_cons_succ, i64_w, i32_w]
                        rfl
                       refine one_ (i := 6) (N := some 84) #[true, true, true, true, true, true, true, false, false, false] rfl rfl (one_of HT_.out (by kernel_rfl)) (by decide) (fun K hK => ?_)
                       refine value_ (w1 := ?_) (v := ?_) (by rfl) rfl ?_ ?_
                       rotate_left 2
                       ·go_simp
                        constructor
                        ·rfl
                        ·rfl
                       refine hK.out _ _ ⟨(blk_cell (blk_alloc BK158.out _) 0).trans rfl, (blk_cell (blk_alloc BK158.out _) 1).trans rfl, (blk_cell (blk_alloc BK158.out _) 2).trans rfl, (blk_cell (blk_alloc BK158.out _) 3).trans rfl, (blk_cell (blk_alloc BK158.out _) 4).trans rfl, (blk_cell (blk_alloc BK158.out _) 5).trans rfl, (World.cell?_alloc_lt _ _ _ (World.block_lt_of_cell? _ _ (hHeld.2.2.2.2.2.2))).trans (hHeld.2.2.2.2.2.2)⟩ (fun hHeld => ?_)
                       clear hK K
                       refine norm_ (a' := ?_) ?_ ?_
                       rotate_left
                       ·show Act.put _ (some 84) _ = _
                        simp only [Act.put, List.setIfInBounds_toArray, List.set_cons_zero, List.set_cons_succ, i64_w, i32_w]
                        rfl
                       refine last_ (i := 7) (N := some 85) #[true, true, true, true, true, true, true, true, false, false] rfl rfl (one_of HT_.out (by kernel_rfl)) (by decide) (fun K hK => ?_)
                       refine Kd.R_append_step (Kd.int .i64) (w0 := w) w.heap.size (by rfl) (.tmp 79) (.tmp 84) 24 3 (.int .i64 0) 8 rfl Tryd.underlying24 info3 rfl (by decide) (by omega) u159005 x159005_2 t178 [.int .i64 t178] (fun k_ => some k_ ≠ (.slice Ao56 y169.length co56 : Value).ownBlock ∧ some k_ ≠ (.slice Ao61 y174.length co61 : Value).ownBlock) (fun _ => False) rfl rfl ?aP (fun _ hk => hk.elim) ?aF ?aO ?aB ?aS ?aL ?_
                       (case aP => exact rfl)
                       (case aB => exact (hb_ HB))
                       (case aF => exact (fun k_ hk => ⟨Kd.fresh' (Kd.R_lt (Kd.R_p HO171)) k_ hk, Kd.fresh' (Kd.R_lt (Kd.R_p HO176)) k_ hk⟩))
                       (case aO => exact (Kd.R_p HO_159005))
                       (case aS => exact (below_size (hb_ HB)))
                       (case aL => have := LMc51.out; omega)
                       intro v180 w65 ho hb hg hat
                       rw [← Ny179.out] at ho
                       have n0_ := Aside0.mk (blk_grown (kp_ BK140) hg (Kd.R_ne HO_159005.out BK140.out (by decide)))
                       have n1_ := Aside0.mk (blk_grown (kp_ BK158) hg (Kd.R_ne HO_159005.out BK158.out (by decide)))
                       have n2_ := Aside0.mk (Kd.R_over' (Kd.R_p HO_4) (Kd.R_typed (Kd.R_p HO_159005)) (by decide) hg)
                       have n3_ := Aside0.mk (Kd.R_over' (Kd.R_p HO166) (Kd.R_typed (Kd.R_p HO_159005)) (by decide) hg)
                       have n4_ := Aside0.mk (Kd.R_after (ok := (fun k_ => some k_ ≠ (.slice Ao61 y174.length co61 : Value).ownBlock)) (Kd.R_pp (Kd.R_mono HO171.out (fun _ hk => ⟨hk.2, hk.1⟩))) hg hat)
                       have n5_ := Aside0.mk (Kd.R_after (ok := (fun k_ => some k_ ≠ (.slice Ao56 y169.length co56 : Value).ownBlock)) (Kd.R_pp (Kd.R_mono HO176.out (fun _ hk => ⟨hk.2, hk.1⟩))) hg hat)
                       have n6_ := Aside0.mk (hb)
                       have n7_ := Aside0.mk (ho)
                       clear BK140
                       clear BK158
                       clear HO_4
                       clear HO166
                       clear HO171
                       clear HO176
                       clear HB
                       clear HO_159005
                       have BK140 := n0_
                       have BK158 := n1_
                       have HO_4 := n2_
                       have HO166 := n3_
                       have HO171 := n4_
                       have HO176 := n5_
                       have HB := n6_
                       have HO181 := n7_
                       clear n0_ n1_ n2_ n3_ n4_ n5_ n6_ n7_
                       clear ho hb hg hat
                       obtain ⟨Ao66, co66, eo66⟩ := Kd.R_slice HO181.out
                       (first | subst eo66 | (injection eo66 with f1_ f2_ f3_; have f4_ := f1_.symm; have f5_ := f3_.symm; clear f1_ f2_ f3_; subst f4_; subst f5_))
                       refine hK.out _ _ ?_
                       clear hK K
                       refine norm_ (a' := ?_) ?_ ?_
                       rotate_left
                       ·show Act.put _ (some 85) _ = _
                        simp only [Act.put, List.setIfInBounds_toArray, List.set_cons_zero, List.set_cons_succ, i64_w, i32_w]
                        rfl
                       refine pure_ (i := 8) (N := some 86) (v := ?_) (a' := ?_) #[true, true, true, true, true, true, true, true, true, false] rfl rfl (any_of HT_.out (by kernel_rfl)) (fun _ _ _ h => h) (Or.inl ⟨by rfl, ?_⟩) ?_ ?_
                       rotate_left
                       ·intro w'
                        go_simp
                        with_reducible rfl
                       rotate_left
                       ·simp only [Act.put, List.setIfInBounds_toArray, List.set_cons_zero, List.set_cons_succ, i64_w, i32_w]
                        rfl
                       refine last_ (i := 9) (N := none) #[true, true, true, true, true, true, true, true, true, true] rfl rfl (one_of HT_.out (by kernel_rfl)) (by decide) (fun K hK => ?_)
                       have hs67 : w65.cell? ⟨gb158, 5, none⟩ = some (u159005) := (blk_cell BK158.out 5).trans rfl
                       have hfs67 := blk_frozen BK158.out 5
                       have hns67_0 := NB140_158.out
                       have hms67_0 := NB158_140.out
                       refine skip_ (w1 := ?_) (by rfl) rfl ?_ ?_
                       rotate_left
                       ·go_simp
                        rfl
                       refine hK.out _ _ ?_
                       clear hK K
                       refine done_ (done_of HT_.out (by kernel_rfl)) ?_
                       try go_wp2
                       go_roundg k2
                       case measure => have := HJ4.out; have := HK2.out; omega
                       case rel => exact ⟨(wrap64 (x51_2 + 1)), (y169), (y174), (y179), (.slice Ao56 y169.length co56), (.slice Ao61 y174.length co61), (.slice Ao66 y179.length co66), (by first | rfl | (simp; done) | (simp [*]; done)), H', ⟨by have := HJ4.out; have := HK2.out; omega⟩, ⟨Kd.R_mono (Kd.R_s HO171 BK158) (fun _ hk => ⟨hk.1, hk.2⟩)⟩, ⟨Kd.R_mono (Kd.R_s HO176 BK158) (fun _ hk => ⟨hk.1, hk.2⟩)⟩, ⟨Kd.R_mono (Kd.R_s HO181 BK158) (fun _ hk => ⟨hk.1, hk.2⟩)⟩, ⟨kf_ BK140 NB140_158⟩, ⟨kpq_ (kputs BK158 [(5, _)])⟩, ⟨Kd.R_mono (Kd.R_s HO_4 BK158) (fun _ _ => trivial)⟩, ⟨(show Kd.C Kd.string _ (some ad163) y159.length y159 from by rw [Ny159.out, KA37.out]; exact Kd.C_drop (m := 1) (c := co8) ((Kd.R_reads' (Kd.R_s HO_4 BK158)).2.2) KL37.out ((Kd.R_reads' (Kd.R_s HO_4 BK158)).2.1))⟩, ⟨hb_ HB⟩⟩
                      ·rw [if_neg c51] at H
                       exact absurd H (by simp)
                     ·rw [if_neg c49] at H
                      exact absurd H (by simp)
                    ·rw [if_neg c48] at H
                     exact absurd H (by simp)
                   ·rw [if_neg c46] at H
                    exact absurd H (by simp)
                  ·rw [if_neg c45] at H
                   exact absurd H (by simp)
                 ·rw [if_neg c43] at H
                  exact absurd H (by simp)
                ·rw [if_neg c42] at H
                 have c42b0 : ((t164.length : Int) == 3) = false := beq_eq_false_iff_ne.mpr c42
                 have c42b1 : ((t164.length : Int) != 3) = true := bne_iff_ne.mpr c42
                 have H' := Aside0.mk H
                 clear H
                 have p163 : 0 ≤ (x51_2 : Int) := of_decide_eq_true (by first | (with_reducible assumption) | assumption)
                 have q163 : x51_2 < (y159.length : Int) := of_decide_eq_true (by first | (with_reducible assumption) | assumption)
                 obtain ⟨ad163, e163, hx163_0⟩ := Kd.at_string HR162.out x51_2 p163 q163
                 cases e163
                 try replace hx163_0 := (HB.out.cell (World.block_lt_of_cell? w _ hx163_0)).trans hx163_0
                 replace p163 := eq_true p163
                 replace q163 := eq_true q163
                 go_wp2_with (first | ((with_reducible refine gate_callee (f := 9) rfl ?_); refine gl_ (some 56) Tryd.func9 #[.string (rdOf ByteArray.empty y159 x51_2), .int .u8 32] rfl rfl rfl ?_; (with_reducible refine (spec_l1Split.calls k2 (rdOf ByteArray.empty y159 x51_2) 32 t164 _ A41.out).mono ?_); rintro e w68 ⟨v165, rfl, ho0, hb⟩; refine ⟨_, rfl, ?_⟩; have HO166 := Kd.R_lo (Kd.R_nw ho0 HO_4) HB; replace HO_159003 := Kd.R_b HO_159003 hb; replace HO_159004 := Kd.R_b HO_159004 hb; replace HO_159005 := Kd.R_b HO_159005 hb; replace HO_4 := Kd.R_e HO_4 ho0 hb; replace BK140 := kb_ BK140 hb; replace BK158 := kb_ BK158 hb; replace HR162 := Aside0.mk (Kd.C_below (by repeat (first | (with_reducible exact HR162.out) | (with_reducible refine Kd.C_alloc ?_ _) | (with_reducible refine Kd.C_drewN ?_ _) | (with_reducible refine Kd.C_drew ?_) | exact HR162.out)) hb); replace HB := hbs_ HB hb; (try clear hb); (try clear hb2); (try clear hk); (try clear hi); (try clear ho0); obtain ⟨Ao69, co69, eo69⟩ := Kd.R_slice HO166.out; subst eo69))
                 go_roundg k2
                 case measure => have := HJ4.out; have := HK2.out; omega
                 case rel => exact ⟨(wrap64 (x51_2 + 1)), (x159003_2), (x159004_2), (x159005_2), (u159003), (u159004), (u159005), (by first | rfl | (simp; done) | (simp [*]; done)), H', ⟨by have := HJ4.out; have := HK2.out; omega⟩, ⟨Kd.R_p HO_159003⟩, ⟨Kd.R_p HO_159004⟩, ⟨Kd.R_p HO_159005⟩, ⟨kp_ BK140⟩, ⟨kp_ BK158⟩, ⟨Kd.R_mono (Kd.R_p HO_4) (fun _ _ => trivial)⟩, ⟨by repeat (first | (with_reducible exact HR162.out) | (with_reducible refine Kd.C_alloc ?_ _) | (with_reducible refine Kd.C_drewN ?_ _) | (with_reducible refine Kd.C_drew ?_) | exact HR162.out)⟩, ⟨hb_ HB⟩⟩
               ·rw [if_neg c40] at H
                exact absurd H (by simp)
              ·rw [if_neg c39] at H
               exact absurd H (by simp)
             ·rw [if_neg c38] at H
              have c38b0 : decide (x51_2 < (y159.length : Int)) = false := decide_eq_false c38
              clear c38
              replace H := Option.bind_eq_some_iff.mp H
              obtain ⟨t182, A700, H⟩ := H
              replace H : (if t182 = true then ((spec_moText.f k2 t153 t155 t157 x159003_2 x159004_2 x159005_2).bind fun t183 => (if t183.toList = a0.toList then (some (t153, t155, t157, x159003_2, x159004_2, x159005_2, true)) else (some (0, 0, 0, ([] : List Int), ([] : List Int), ([] : List Int), false)))) else (some (0, 0, 0, ([] : List Int), ([] : List Int), ([] : List Int), false))) = some (r1, r2, r3, r4, r5, r6, r7) := H
              have A70 := Aside0.mk A700
              clear A700
              by_cases c71 : t182 = true
              ·subst c71
               have H1 : ((spec_moText.f k2 t153 t155 t157 x159003_2 x159004_2 x159005_2).bind fun t183 => (if t183.toList = a0.toList then (some (t153, t155, t157, x159003_2, x159004_2, x159005_2, true)) else (some (0, 0, 0, ([] : List Int), ([] : List Int), ([] : List Int), false)))) = some (r1, r2, r3, r4, r5, r6, r7) := by rw [if_pos rfl] at H; exact H
               clear H
               have H := H1
               clear H1
               replace H := Option.bind_eq_some_iff.mp H
               obtain ⟨t183, A720, H⟩ := H
               replace H : (if t183.toList = a0.toList then (some (t153, t155, t157, x159003_2, x159004_2, x159005_2, true)) else (some (0, 0, 0, ([] : List Int), ([] : List Int), ([] : List Int), false))) = some (r1, r2, r3, r4, r5, r6, r7) := H
               have A72 := Aside0.mk A720
               clear A720
               by_cases c73 : t183.toList = a0.toList
               ·rw [if_pos c73] at H
                have c73b0 : (t183.toList == a0.toList) = true := beq_iff_eq.mpr c73
                have c73b1 : (t183.toList != a0.toList) = false := bne_eq_false_iff_eq.mpr c73
                clear c73
                simp only [Option.some.injEq, Prod.mk.injEq] at H
                obtain ⟨rfl, rfl, rfl, rfl, rfl, rfl, rfl⟩ := H
                have hnb74 := NB158_140.out
                have hnc74 := NB140_158.out
                have hcz75_0 : wr.cell? ⟨gb158, 0, none⟩ = some (.int .i64 t153) := (blk_cell BK158.out 0).trans rfl
                have hcz75_1 : wr.cell? ⟨gb158, 1, none⟩ = some (.int .i64 t155) := (blk_cell BK158.out 1).trans rfl
                have hcz75_2 : wr.cell? ⟨gb158, 2, none⟩ = some (.int .i64 t157) := (blk_cell BK158.out 2).trans rfl
                have hcz75_3 : wr.cell? ⟨gb158, 3, none⟩ = some (u159003) := (blk_cell BK158.out 3).trans rfl
                have hcz75_4 : wr.cell? ⟨gb158, 4, none⟩ = some (u159004) := (blk_cell BK158.out 4).trans rfl
                have hcz75_5 : wr.cell? ⟨gb158, 5, none⟩ = some (u159005) := (blk_cell BK158.out 5).trans rfl
                have hfz75_0 := blk_frozen BK158.out 0
                have hfz75_1 := blk_frozen BK158.out 1
                have hfz75_2 := blk_frozen BK158.out 2
                have hfz75_3 := blk_frozen BK158.out 3
                have hfz75_4 := blk_frozen BK158.out 4
                have hfz75_5 := blk_frozen BK158.out 5
                (try clear HR162)
                obtain ⟨Ao76, co76, eo76⟩ := Kd.R_slice HO_159003.out
                subst eo76
                obtain ⟨Ao77, co77, eo77⟩ := Kd.R_slice HO_159004.out
                subst eo77
                obtain ⟨Ao78, co78, eo78⟩ := Kd.R_slice HO_159005.out
                subst eo78
                go_wp2_with (first | ((with_reducible refine gate_callee (f := 11) rfl ?_); refine gl_ (some 89) Tryd.func11 #[.agg #[.int .i64 t153, .int .i64 t155, .int .i64 t157, .slice Ao76 x159003_2.length co76, .slice Ao77 x159004_2.length co77, .slice Ao78 x159005_2.length co78]] rfl rfl rfl ?_; (with_reducible refine (spec_moGood.calls k2 t153 t155 t157 _ _ x159003_2 _ _ x159004_2 _ _ x159005_2 true _ ?side1 ?side2 ?side3 ?side4 ?side5 ?side6 A70.out).mono ?_); (case side1 => exact Kd.C_o HO_159003); (case side2 => exact (Kd.R_reads' HO_159003.out).2.1); (case side3 => exact Kd.C_o HO_159004); (case side4 => exact (Kd.R_reads' HO_159004.out).2.1); (case side5 => exact Kd.C_o HO_159005); (case side6 => exact (Kd.R_reads' HO_159005.out).2.1); rintro e w79 ⟨rfl, hb⟩; refine ⟨_, rfl, ?_⟩; replace HO_159003 := Kd.R_b HO_159003 hb; replace HO_159004 := Kd.R_b HO_159004 hb; replace HO_159005 := Kd.R_b HO_159005 hb; replace HO_4 := Kd.R_b HO_4 hb; replace BK140 := kb_ BK140 hb; replace BK158 := kb_ BK158 hb; replace HB := hbs_ HB hb; (try clear hb); (try clear hb2); (try clear hk); (try clear hi); obtain ⟨hcz80_0, hcz80_1, hcz80_2, hcz80_3, hcz80_4, hcz80_5, hfz80_0, hfz80_1, hfz80_2, hfz80_3, hfz80_4, hfz80_5⟩ := bx6 BK158) | (go_at_call 12; (with_reducible refine (spec_moText.calls k2 t153 t155 t157 _ _ x159003_2 _ _ x159004_2 _ _ x159005_2 t183 _ ?side1 ?side2 ?side3 ?side4 ?side5 ?side6 A72.out).mono ?_); (case side1 => exact Kd.C_o HO_159003); (case side2 => exact (Kd.R_reads' HO_159003.out).2.1); (case side3 => exact Kd.C_o HO_159004); (case side4 => exact (Kd.R_reads' HO_159004.out).2.1); (case side5 => exact Kd.C_o HO_159005); (case side6 => exact (Kd.R_reads' HO_159005.out).2.1); rintro e w81 ⟨rfl, hb⟩; have n0_ := Aside0.mk (Kd.R_below (Kd.R_p HO_159003) hb); have n1_ := Aside0.mk (Kd.R_below (Kd.R_p HO_159004) hb); have n2_ := Aside0.mk (Kd.R_below (Kd.R_p HO_159005) hb); have n3_ := Aside0.mk (Kd.R_below (Kd.R_p HO_4) hb); have n4_ := Aside0.mk (blk_below (kp_ BK140) hb); have n5_ := Aside0.mk (blk_below (kp_ BK158) hb); have n6_ := Aside0.mk (below_step (hb_ HB) hb); clear HO_159003; clear HO_159004; clear HO_159005; clear HO_4; clear BK140; clear BK158; clear HB; have HO_159003 := n0_; have HO_159004 := n1_; have HO_159005 := n2_; have HO_4 := n3_; have BK140 := n4_; have BK158 := n5_; have HB := n6_; clear n0_ n1_ n2_ n3_ n4_ n5_ n6_; (try clear hb); (try clear hb2); (try clear hk); (try clear hi); have hcz82_0 : w81.cell? ⟨gb158, 0, none⟩ = some (.int .i64 t153) := (blk_cell BK158.out 0).trans rfl; have hcz82_1 : w81.cell? ⟨gb158, 1, none⟩ = some (.int .i64 t155) := (blk_cell BK158.out 1).trans rfl; have hcz82_2 : w81.cell? ⟨gb158, 2, none⟩ = some (.int .i64 t157) := (blk_cell BK158.out 2).trans rfl; have hcz82_3 : w81.cell? ⟨gb158, 3, none⟩ = some (.slice Ao76 x159003_2.length co76) := (blk_cell BK158.out 3).trans rfl; have hcz82_4 : w81.cell? ⟨gb158, 4, none⟩ = some (.slice Ao77 x159004_2.length co77) := (blk_cell BK158.out 4).trans rfl; have hcz82_5 : w81.cell? ⟨gb158, 5, none⟩ = some (.slice Ao78 x159005_2.length co78) := (blk_cell BK158.out 5).trans rfl; have hfz82_0 := blk_frozen BK158.out 0; have hfz82_1 := blk_frozen BK158.out 1; have hfz82_2 := blk_frozen BK158.out 2; have hfz82_3 := blk_frozen BK158.out 3; have hfz82_4 := blk_frozen BK158.out 4; have hfz82_5 := blk_frozen BK158.out 5; have hcz83_0 : w81.cell? ⟨gb140, 0, none⟩ = some (.int .i64 0) := (blk_cell BK140.out 0).trans rfl; have hcz83_1 : w81.cell? ⟨gb140, 1, none⟩ = some (.int .i64 0) := (blk_cell BK140.out 1).trans rfl; have hcz83_2 : w81.cell? ⟨gb140, 2, none⟩ = some (.int .i64 0) := (blk_cell BK140.out 2).trans rfl; have hcz83_3 : w81.cell? ⟨gb140, 3, none⟩ = some (.slice none 0 0) := (blk_cell BK140.out 3).trans rfl; have hcz83_4 : w81.cell? ⟨gb140, 4, none⟩ = some (.slice none 0 0) := (blk_cell BK140.out 4).trans rfl; have hcz83_5 : w81.cell? ⟨gb140, 5, none⟩ = some (.slice none 0 0) := (blk_cell BK140.out 5).trans rfl; have hfz83_0 := blk_frozen BK140.out 0; have hfz83_1 := blk_frozen BK140.out 1; have hfz83_2 := blk_frozen BK140.out 2; have hfz83_3 := blk_frozen BK140.out 3; have hfz83_4 := blk_frozen BK140.out 4; have hfz83_5 := blk_frozen BK140.out 5))
                refine bodyPost_ret (results_ct rfl _ _ gb140 26 #[.int .i64 t153, .int .i64 t155, .int .i64 t157, .slice Ao76 x159003_2.length co76, .slice Ao77 x159004_2.length co77, .slice Ao78 x159005_2.length co78] (0, 0) _ rfl (kpq_ (kputs BK140 [(0, _), (1, _), (2, _), (3, _), (4, _), (5, _)])) Tryd.underlying26 rfl (by kernel_rfl)) rfl ?_
                exact ⟨_, _, _, by first | rfl | (simp [errW_none, errW_some] <;> rfl) | (simp [*, errW_none, errW_some] <;> rfl), Kd.R_mono (Kd.R_s HO_159003 BK140) (fun _ hk => ⟨hk.1, hk.2⟩), Kd.R_mono (Kd.R_s HO_159004 BK140) (fun _ hk => ⟨hk.1, hk.2⟩), Kd.R_mono (Kd.R_s HO_159005 BK140) (fun _ hk => ⟨hk.1, hk.2⟩), hb_ HB⟩
               ·rw [if_neg c73] at H
                have c73b0 : (t183.toList == a0.toList) = false := beq_eq_false_iff_ne.mpr c73
                have c73b1 : (t183.toList != a0.toList) = true := bne_iff_ne.mpr c73
                simp only [Option.some.injEq, Prod.mk.injEq] at H
                obtain ⟨rfl, rfl, rfl, rfl, rfl, rfl, rfl⟩ := H
                have hnb84 := NB158_140.out
                have hnc84 := NB140_158.out
                have hcz85_0 : wr.cell? ⟨gb158, 0, none⟩ = some (.int .i64 t153) := (blk_cell BK158.out 0).trans rfl
                have hcz85_1 : wr.cell? ⟨gb158, 1, none⟩ = some (.int .i64 t155) := (blk_cell BK158.out 1).trans rfl
                have hcz85_2 : wr.cell? ⟨gb158, 2, none⟩ = some (.int .i64 t157) := (blk_cell BK158.out 2).trans rfl
                have hcz85_3 : wr.cell? ⟨gb158, 3, none⟩ = some (u159003) := (blk_cell BK158.out 3).trans rfl
                have hcz85_4 : wr.cell? ⟨gb158, 4, none⟩ = some (u159004) := (blk_cell BK158.out 4).trans rfl
                have hcz85_5 : wr.cell? ⟨gb158, 5, none⟩ = some (u159005) := (blk_cell BK158.out 5).trans rfl
                have hfz85_0 := blk_frozen BK158.out 0
                have hfz85_1 := blk_frozen BK158.out 1
                have hfz85_2 := blk_frozen BK158.out 2
                have hfz85_3 := blk_frozen BK158.out 3
                have hfz85_4 := blk_frozen BK158.out 4
                have hfz85_5 := blk_frozen BK158.out 5
                (try clear HR162)
                obtain ⟨Ao86, co86, eo86⟩ := Kd.R_slice HO_159003.out
                subst eo86
                obtain ⟨Ao87, co87, eo87⟩ := Kd.R_slice HO_159004.out
                subst eo87
                obtain ⟨Ao88, co88, eo88⟩ := Kd.R_slice HO_159005.out
                subst eo88
                go_wp2_with (first | ((with_reducible refine gate_callee (f := 11) rfl ?_); refine gl_ (some 89) Tryd.func11 #[.agg #[.int .i64 t153, .int .i64 t155, .int .i64 t157, .slice Ao86 x159003_2.length co86, .slice Ao87 x159004_2.length co87, .slice Ao88 x159005_2.length co88]] rfl rfl rfl ?_; (with_reducible refine (spec_moGood.calls k2 t153 t155 t157 _ _ x159003_2 _ _ x159004_2 _ _ x159005_2 true _ ?side1 ?side2 ?side3 ?side4 ?side5 ?side6 A70.out).mono ?_); (case side1 => exact Kd.C_o HO_159003); (case side2 => exact (Kd.R_reads' HO_159003.out).2.1); (case side3 => exact Kd.C_o HO_159004); (case side4 => exact (Kd.R_reads' HO_159004.out).2.1); (case side5 => exact Kd.C_o HO_159005); (case side6 => exact (Kd.R_reads' HO_159005.out).2.1); rintro e w89 ⟨rfl, hb⟩; refine ⟨_, rfl, ?_⟩; replace HO_159003 := Kd.R_b HO_159003 hb; replace HO_159004 := Kd.R_b HO_159004 hb; replace HO_159005 := Kd.R_b HO_159005 hb; replace HO_4 := Kd.R_b HO_4 hb; replace BK140 := kb_ BK140 hb; replace BK158 := kb_ BK158 hb; replace HB := hbs_ HB hb; (try clear hb); (try clear hb2); (try clear hk); (try clear hi); obtain ⟨hcz90_0, hcz90_1, hcz90_2, hcz90_3, hcz90_4, hcz90_5, hfz90_0, hfz90_1, hfz90_2, hfz90_3, hfz90_4, hfz90_5⟩ := bx6 BK158) | (go_at_call 12; (with_reducible refine (spec_moText.calls k2 t153 t155 t157 _ _ x159003_2 _ _ x159004_2 _ _ x159005_2 t183 _ ?side1 ?side2 ?side3 ?side4 ?side5 ?side6 A72.out).mono ?_); (case side1 => exact Kd.C_o HO_159003); (case side2 => exact (Kd.R_reads' HO_159003.out).2.1); (case side3 => exact Kd.C_o HO_159004); (case side4 => exact (Kd.R_reads' HO_159004.out).2.1); (case side5 => exact Kd.C_o HO_159005); (case side6 => exact (Kd.R_reads' HO_159005.out).2.1); rintro e w91 ⟨rfl, hb⟩; have n0_ := Aside0.mk (Kd.R_below (Kd.R_p HO_159003) hb); have n1_ := Aside0.mk (Kd.R_below (Kd.R_p HO_159004) hb); have n2_ := Aside0.mk (Kd.R_below (Kd.R_p HO_159005) hb); have n3_ := Aside0.mk (Kd.R_below (Kd.R_p HO_4) hb); have n4_ := Aside0.mk (blk_below (kp_ BK140) hb); have n5_ := Aside0.mk (blk_below (kp_ BK158) hb); have n6_ := Aside0.mk (below_step (hb_ HB) hb); clear HO_159003; clear HO_159004; clear HO_159005; clear HO_4; clear BK140; clear BK158; clear HB; have HO_159003 := n0_; have HO_159004 := n1_; have HO_159005 := n2_; have HO_4 := n3_; have BK140 := n4_; have BK158 := n5_; have HB := n6_; clear n0_ n1_ n2_ n3_ n4_ n5_ n6_; (try clear hb); (try clear hb2); (try clear hk); (try clear hi); have hcz92_0 : w91.cell? ⟨gb140, 0, none⟩ = some (.int .i64 0) := (blk_cell BK140.out 0).trans rfl; have hcz92_1 : w91.cell? ⟨gb140, 1, none⟩ = some (.int .i64 0) := (blk_cell BK140.out 1).trans rfl; have hcz92_2 : w91.cell? ⟨gb140, 2, none⟩ = some (.int .i64 0) := (blk_cell BK140.out 2).trans rfl; have hcz92_3 : w91.cell? ⟨gb140, 3, none⟩ = some (.slice none 0 0) := (blk_cell BK140.out 3).trans rfl; have hcz92_4 : w91.cell? ⟨gb140, 4, none⟩ = some (.slice none 0 0) := (blk_cell BK140.out 4).trans rfl; have hcz92_5 : w91.cell? ⟨gb140, 5, none⟩ = some (.slice none 0 0) := (blk_cell BK140.out 5).trans rfl; have hfz92_0 := blk_frozen BK140.out 0; have hfz92_1 := blk_frozen BK140.out 1; have hfz92_2 := blk_frozen BK140.out 2; have hfz92_3 := blk_frozen BK140.out 3; have hfz92_4 := blk_frozen BK140.out 4; have hfz92_5 := blk_frozen BK140.out 5))
                refine bodyPost_ret (results_ct rfl _ _ gb140 26 #[.int .i64 0, .int .i64 0, .int .i64 0, .slice none 0 0, .slice none 0 0, .slice none 0 0] (0, 0) _ rfl (kpq_ (kputs BK140 [(0, _), (1, _), (2, _), (3, _), (4, _), (5, _)])) Tryd.underlying26 rfl (by kernel_rfl)) rfl ?_
                exact ⟨_, _, _, by first | rfl | (simp [errW_none, errW_some] <;> rfl) | (simp [*, errW_none, errW_some] <;> rfl), by first | exact Kd.R_nil _ _ _ _ _ | exact Kd.N_nil _ _ _ _ _ | exact Kd.V_nil _ _ _ _ _ | exact Kd.Q_nil _ _ _ _ _ | exact Kd.S_nil _ _ _ _ _, by first | exact Kd.R_nil _ _ _ _ _ | exact Kd.N_nil _ _ _ _ _ | exact Kd.V_nil _ _ _ _ _ | exact Kd.Q_nil _ _ _ _ _ | exact Kd.S_nil _ _ _ _ _, by first | exact Kd.R_nil _ _ _ _ _ | exact Kd.N_nil _ _ _ _ _ | exact Kd.V_nil _ _ _ _ _ | exact Kd.Q_nil _ _ _ _ _ | exact Kd.S_nil _ _ _ _ _, hb_ HB⟩
              ·replace c71 := Bool.eq_false_iff.mpr c71
               subst c71
               have H1 : (some (0, 0, 0, ([] : List Int), ([] : List Int), ([] : List Int), false)) = some (r1, r2, r3, r4, r5, r6, r7) := by rw [if_neg (show ¬ (false = true) by decide)] at H; exact H
               clear H
               have H := H1
               clear H1
               simp only [Option.some.injEq, Prod.mk.injEq] at H
               obtain ⟨rfl, rfl, rfl, rfl, rfl, rfl, rfl⟩ := H
               have hnb93 := NB158_140.out
               have hnc93 := NB140_158.out
               have hcz94_0 : wr.cell? ⟨gb158, 0, none⟩ = some (.int .i64 t153) := (blk_cell BK158.out 0).trans rfl
               have hcz94_1 : wr.cell? ⟨gb158, 1, none⟩ = some (.int .i64 t155) := (blk_cell BK158.out 1).trans rfl
               have hcz94_2 : wr.cell? ⟨gb158, 2, none⟩ = some (.int .i64 t157) := (blk_cell BK158.out 2).trans rfl
               have hcz94_3 : wr.cell? ⟨gb158, 3, none⟩ = some (u159003) := (blk_cell BK158.out 3).trans rfl
               have hcz94_4 : wr.cell? ⟨gb158, 4, none⟩ = some (u159004) := (blk_cell BK158.out 4).trans rfl
               have hcz94_5 : wr.cell? ⟨gb158, 5, none⟩ = some (u159005) := (blk_cell BK158.out 5).trans rfl
               have hfz94_0 := blk_frozen BK158.out 0
               have hfz94_1 := blk_frozen BK158.out 1
               have hfz94_2 := blk_frozen BK158.out 2
               have hfz94_3 := blk_frozen BK158.out 3
               have hfz94_4 := blk_frozen BK158.out 4
               have hfz94_5 := blk_frozen BK158.out 5
               (try clear HR162)
               obtain ⟨Ao95, co95, eo95⟩ := Kd.R_slice HO_159003.out
               subst eo95
               obtain ⟨Ao96, co96, eo96⟩ := Kd.R_slice HO_159004.out
               subst eo96
               obtain ⟨Ao97, co97, eo97⟩ := Kd.R_slice HO_159005.out
               subst eo97
               go_wp2_with (first | ((with_reducible refine gate_callee (f := 11) rfl ?_); refine gl_ (some 89) Tryd.func11 #[.agg #[.int .i64 t153, .int .i64 t155, .int .i64 t157, .slice Ao95 x159003_2.length co95, .slice Ao96 x159004_2.length co96, .slice Ao97 x159005_2.length co97]] rfl rfl rfl ?_; (with_reducible refine (spec_moGood.calls k2 t153 t155 t157 _ _ x159003_2 _ _ x159004_2 _ _ x159005_2 false _ ?side1 ?side2 ?side3 ?side4 ?side5 ?side6 A70.out).mono ?_); (case side1 => exact Kd.C_o HO_159003); (case side2 => exact (Kd.R_reads' HO_159003.out).2.1); (case side3 => exact Kd.C_o HO_159004); (case side4 => exact (Kd.R_reads' HO_159004.out).2.1); (case side5 => exact Kd.C_o HO_159005); (case side6 => exact (Kd.R_reads' HO_159005.out).2.1); rintro e w98 ⟨rfl, hb⟩; refine ⟨_, rfl, ?_⟩; replace HO_159003 := Kd.R_b HO_159003 hb; replace HO_159004 := Kd.R_b HO_159004 hb; replace HO_159005 := Kd.R_b HO_159005 hb; replace HO_4 := Kd.R_b HO_4 hb; replace BK140 := kb_ BK140 hb; replace BK158 := kb_ BK158 hb; replace HB := hbs_ HB hb; (try clear hb); (try clear hb2); (try clear hk); (try clear hi); obtain ⟨hcz99_0, hcz99_1, hcz99_2, hcz99_3, hcz99_4, hcz99_5, hfz99_0, hfz99_1, hfz99_2, hfz99_3, hfz99_4, hfz99_5⟩ := bx6 BK140))
               refine bodyPost_ret (results_ct rfl _ _ gb140 26 #[.int .i64 0, .int .i64 0, .int .i64 0, .slice none 0 0, .slice none 0 0, .slice none 0 0] (0, 0) _ rfl (kpq_ (kputs BK140 [(0, _), (1, _), (2, _), (3, _), (4, _), (5, _)])) Tryd.underlying26 rfl (by kernel_rfl)) rfl ?_
               exact ⟨_, _, _, by first | rfl | (simp [errW_none, errW_some] <;> rfl) | (simp [*, errW_none, errW_some] <;> rfl), by first | exact Kd.R_nil _ _ _ _ _ | exact Kd.N_nil _ _ _ _ _ | exact Kd.V_nil _ _ _ _ _ | exact Kd.Q_nil _ _ _ _ _ | exact Kd.S_nil _ _ _ _ _, by first | exact Kd.R_nil _ _ _ _ _ | exact Kd.N_nil _ _ _ _ _ | exact Kd.V_nil _ _ _ _ _ | exact Kd.Q_nil _ _ _ _ _ | exact Kd.S_nil _ _ _ _ _, by first | exact Kd.R_nil _ _ _ _ _ | exact Kd.N_nil _ _ _ _ _ | exact Kd.V_nil _ _ _ _ _ | exact Kd.Q_nil _ _ _ _ _ | exact Kd.S_nil _ _ _ _ _, hb_ HB⟩
          ·rw [if_neg c23] at H
           exact absurd H (by simp)
         ·rw [if_neg c21] at H
          exact absurd H (by simp)
        ·rw [if_neg c19] at H
         exact absurd H (by simp)
       ·rw [if_neg c17] at H
        exact absurd H (by simp)
      ·rw [if_neg c16] at H
       have c16b0 : ((t149.length : Int) == 3) = false := beq_eq_false_iff_ne.mpr c16
       have c16b1 : ((t149.length : Int) != 3) = true := bne_iff_ne.mpr c16
       simp only [Option.some.injEq, Prod.mk.injEq] at H
       obtain ⟨rfl, rfl, rfl, rfl, rfl, rfl, rfl⟩ := H
       obtain ⟨Ao100, co100, eo100⟩ := Kd.R_slice HO_5.out
       subst eo100
       have p148 : 0 ≤ (1 : Int) := (by omega)
       have q148 : 1 < (t145.length : Int) := of_decide_eq_true (by first | (with_reducible assumption) | assumption)
       obtain ⟨ad148, e148, hx148_0⟩ := Kd.at_string (Kd.R_reads' HO_5.out).2.2 1 p148 q148
       cases e148
       (try simp only [show (1 : Int).toNat = 1 from rfl, Nat.reduceMul, Nat.reduceEqDiff, Go.Addr.add, ↓reduceIte] at hx148_0)
       have qi148 : (1 < t145.length) = True := eq_true (by omega)
       (try rw [show ((1 : Int)).toNat = 1 from rfl] at hx148_0)
       replace p148 := eq_true p148
       replace q148 := eq_true q148
       go_wp2_with (first | ((with_reducible refine gate_callee (f := 9) rfl ?_); refine gl_ (some 29) Tryd.func9 #[.string (rdOf ByteArray.empty t145 1), .int .u8 120] rfl rfl rfl ?_; (with_reducible refine (spec_l1Split.calls kj4 (rdOf ByteArray.empty t145 1) 120 t149 _ A15.out).mono ?_); rintro e w101 ⟨v150, rfl, ho0, hb⟩; refine ⟨_, rfl, ?_⟩; have HO151 := Kd.R_lo (Kd.R_nw (Kd.R_nw ho0 HO_4) HO_5) HB; replace HO_4 := Kd.R_e HO_4 ho0 hb; replace HO_5 := Kd.R_e HO_5 ho0 hb; replace BK140 := kb_ BK140 hb; replace HB := hbs_ HB hb; (try clear hb); (try clear hb2); (try clear hk); (try clear hi); (try clear ho0); obtain ⟨Ao102, co102, eo102⟩ := Kd.R_slice HO151.out; subst eo102; obtain ⟨hcz103_0, hcz103_1, hcz103_2, hcz103_3, hcz103_4, hcz103_5, hfz103_0, hfz103_1, hfz103_2, hfz103_3, hfz103_4, hfz103_5⟩ := bx6 BK140))
       refine bodyPost_ret (results_ct rfl _ _ gb140 26 #[.int .i64 0, .int .i64 0, .int .i64 0, .slice none 0 0, .slice none 0 0, .slice none 0 0] (0, 0) _ rfl (kpq_ (kputs BK140 [(0, _), (1, _), (2, _), (3, _), (4, _), (5, _)])) Tryd.underlying26 rfl (by kernel_rfl)) rfl ?_
       exact ⟨_, _, _, by first | rfl | (simp [errW_none, errW_some] <;> rfl) | (simp [*, errW_none, errW_some] <;> rfl), by first | exact Kd.R_nil _ _ _ _ _ | exact Kd.N_nil _ _ _ _ _ | exact Kd.V_nil _ _ _ _ _ | exact Kd.Q_nil _ _ _ _ _ | exact Kd.S_nil _ _ _ _ _, by first | exact Kd.R_nil _ _ _ _ _ | exact Kd.N_nil _ _ _ _ _ | exact Kd.V_nil _ _ _ _ _ | exact Kd.Q_nil _ _ _ _ _ | exact Kd.S_nil _ _ _ _ _, by first | exact Kd.R_nil _ _ _ _ _ | exact Kd.N_nil _ _ _ _ _ | exact Kd.V_nil _ _ _ _ _ | exact Kd.Q_nil _ _ _ _ _ | exact Kd.S_nil _ _ _ _ _, hb_ HB⟩
     ·rw [if_neg c14] at H
      exact absurd H (by simp)
 ·rw [if_neg c3] at H
  exact absurd H (by simp)

end Go.Proofs.YtjchafcodnilmaaDoor.PFnExactParseModel
