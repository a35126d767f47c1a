-- Laid for this claim by wip/tools/print2.sh, a changed copy of the kit's print (wip/tools/patch_print.py): not by print.sh. Changed by wip/fix/laid.py.
import Derived.Test.YtjchafcodnilmaaDoorPFnExactParseModelx0
import Derived.Test.YtjchafcodnilmaaDoorPFnExactParseModelx5
import Derived.Test.YtjchafcodnilmaaDoorPFnExactParseModelx6
namespace Go.Proofs.YtjchafcodnilmaaDoor.PFnExactParseModel
open Go.RowKit Go.Proofs.YtjchafcodnilmaaDoorW.PrintWords Go.Proofs.YtjchafcodnilmaaDoorW.PrintLast Go.Proofs.YtjchafcodnilmaaDoorW.PrintMore
attribute [local go_sem] max2_int min2_int max_two min_two max_three min_three max_four min_four   -- for this text's walks alone
set_option linter.unusedVariables false
set_option linter.unusedSimpArgs false

/-! ### impl_ParseModel: function 5 -/
mutual
def impl_ParseModel.j0 : Nat → List ByteArray → Bool → Option (Int × Int × Int × List Int × List Int × List Int × Bool)
 | 0, _, _ => none
 | k + 1, x4, x25 => if x25 = true then (some (0, 0, 0, ([] : List Int), ([] : List Int), ([] : List Int), false)) else (if 0 < (x4.length : Int) then ((strings_CutPrefix.f (rdOf ByteArray.empty x4 0) (⟨#[109, 111, 100, 101, 108, 32]⟩ : ByteArray)).bind fun bt222 => ((strings_ReplaceAll.f bt222.1 (⟨#[120]⟩ : ByteArray) (⟨#[32]⟩ : ByteArray)).bind fun t224 => ((impl_decimals.f k t224 3).bind fun bt225 => (if bt222.2 = true then (if bt225.2 = true then ((strings_Contains.f bt222.1 (⟨#[32]⟩ : ByteArray)).bind fun t229 => (impl_ParseModel.j1 k x4 bt225.1 t229)) else (impl_ParseModel.j1 k x4 bt225.1 true)) else (impl_ParseModel.j1 k x4 bt225.1 true))))) else (none))
def impl_ParseModel.j1 : Nat → List ByteArray → List Int → Bool → Option (Int × Int × Int × List Int × List Int × List Int × Bool)
 | 0, _, _, _ => none
 | k + 1, x4, x8, x50 => if x50 = true then (some (0, 0, 0, ([] : List Int), ([] : List Int), ([] : List Int), false)) else (if 0 < (x8.length : Int) then (if 1 < (x8.length : Int) then (if 2 < (x8.length : Int) then (if 1 ≤ (x4.length : Int) then ((some (x4.drop 1 : List ByteArray)).bind fun y233 => (impl_ParseModel.l0 k y233 (y233.length : Int) 0 (rd x8 0) (rd x8 1) (rd x8 2) ([] : List Int) ([] : List Int) ([] : List Int))) else (none)) else (none)) else (none)) else (none))
def impl_ParseModel.l0 : Nat → List ByteArray → Int → Int → Int → Int → Int → List Int → List Int → List Int → Option (Int × Int × Int × List Int × List Int × List Int × Bool)
 | 0, _, _, _, _, _, _, _, _, _ => none
 | k + 1, x64, x65, x66, x221000, x221001, x221002, x221003, x221004, x221005 => if x66 < x65 then (if 0 ≤ x66 then (if x66 < (x64.length : Int) then ((impl_decimals.f k (rdOf ByteArray.empty x64 x66) 3).bind fun bt238 => (if bt238.2 = true then (if 0 < (bt238.1.length : Int) then (if x221003.length < 17592186044416 then (if 1 < (bt238.1.length : Int) then (if x221004.length < 17592186044416 then (if 2 < (bt238.1.length : Int) then (if x221005.length < 17592186044416 then (impl_ParseModel.l0 k x64 x65 (wrap64 (x66 + 1)) x221000 x221001 x221002 (x221003 ++ [rd bt238.1 0]) (x221004 ++ [rd bt238.1 1]) (x221005 ++ [rd bt238.1 2])) else (none)) else (none)) else (none)) else (none)) else (none)) else (none)) else (some (0, 0, 0, ([] : List Int), ([] : List Int), ([] : List Int), false)))) else (none)) else (none)) else ((impl_IsModel.f k x221000 x221001 x221002 x221003 x221004 x221005).bind fun t254 => (if t254 = true then (some (x221000, x221001, x221002, x221003, x221004, x221005, true)) else (some (0, 0, 0, ([] : List Int), ([] : List Int), ([] : List Int), false))))
end
def impl_ParseModel.f (k : Nat) (a0 : ByteArray) : Option (Int × Int × Int × List Int × List Int × List Int × Bool) := (impl_linesOf.f a0).bind fun bt216 => (if bt216.2 = true then (impl_ParseModel.j0 k bt216.1 (decide ((bt216.1.length : Int) < 2))) else (impl_ParseModel.j0 k bt216.1 true))
def impl_ParseModel.T9 : Bool × List (List Nat × List Nat) := (true, [([], []), ([0], [0]), ([1], [1]), ([], []), ([3], [3]), ([4], [4]), ([], []), ([6], [6]), ([7], [7]), ([2, 5, 8], [2, 5, 8]), ([0, 1, 2, 3, 4, 5, 6, 7, 8, 9], []), ([10, 9, 0, 1, 2, 3, 4, 5, 6, 7, 8, 9], [9, 10])])
def impl_ParseModel.B9 : List Nat := [0, 1, 3, 0, 8, 24, 0, 64, 192, 511, 1023, 2047]
theorem impl_ParseModel.tab9 : rtab .any (opsOf Tryd.f5 9) = impl_ParseModel.T9 := by kernel_rfl
theorem impl_ParseModel.bits9 : waitsOk impl_ParseModel.T9.2 impl_ParseModel.B9 = true := by kernel_rfl
def impl_ParseModel.T16 : Bool × List (List Nat × List Nat) := (true, [([], []), ([0], [0]), ([], []), ([2], [2]), ([3], [3]), ([4], [4]), ([1, 5], [1, 5]), ([0, 1, 2, 3, 4, 5, 6], []), ([7, 6, 6, 0, 1, 2, 3, 4, 5, 6], [6, 7])])
def impl_ParseModel.B16 : List Nat := [0, 1, 0, 4, 12, 28, 63, 127, 255]
theorem impl_ParseModel.tab16 : rtab .any (opsOf Tryd.f5 16) = impl_ParseModel.T16 := by kernel_rfl
theorem impl_ParseModel.bits16 : waitsOk impl_ParseModel.T16.2 impl_ParseModel.B16 = true := by kernel_rfl
def impl_ParseModel.T17 : Bool × List (List Nat × List Nat) := (true, [([], []), ([0], [0]), ([], []), ([2], [2]), ([3], [3]), ([4], [4]), ([1, 5], [1, 5]), ([0, 1, 2, 3, 4, 5, 6], []), ([7, 6, 6, 0, 1, 2, 3, 4, 5, 6], [6, 7])])
def impl_ParseModel.B17 : List Nat := [0, 1, 0, 4, 12, 28, 63, 127, 255]
theorem impl_ParseModel.tab17 : rtab .any (opsOf Tryd.f5 17) = impl_ParseModel.T17 := by kernel_rfl
theorem impl_ParseModel.bits17 : waitsOk impl_ParseModel.T17.2 impl_ParseModel.B17 = true := by kernel_rfl
def impl_ParseModel.T18 : Bool × List (List Nat × List Nat) := (true, [([], []), ([0], [0]), ([], []), ([2], [2]), ([3], [3]), ([4], [4]), ([1, 5], [1, 5]), ([0, 1, 2, 3, 4, 5, 6], []), ([7, 6, 6, 0, 1, 2, 3, 4, 5, 6], [6, 7])])
def impl_ParseModel.B18 : List Nat := [0, 1, 0, 4, 12, 28, 63, 127, 255]
theorem impl_ParseModel.tab18 : rtab .any (opsOf Tryd.f5 18) = impl_ParseModel.T18 := by kernel_rfl
theorem impl_ParseModel.bits18 : waitsOk impl_ParseModel.T18.2 impl_ParseModel.B18 = true := by kernel_rfl
set_option maxHeartbeats 8000000 in
set_option maxRecDepth 100000 in
theorem impl_ParseModel.calls (k : Nat) (a0 : ByteArray) (r1 : Int) (r2 : Int) (r3 : Int) (r4 : List Int) (r5 : List Int) (r6 : List Int) (r7 : Bool) (w : World) (h : impl_ParseModel.f k a0 = some (r1, r2, r3, r4, r5, r6, r7)) (hL : LaidW w) :
  Calls Tryd.prog 5 #[.string a0] w fun e w' => ∃ v3_ v4_ v5_ : Value, e = .returned (.tuple #[.agg #[.int .i64 r1, .int .i64 r2, .int .i64 r3, v3_, v4_, v5_], .bool r7]) ∧ Kd.R (Kd.int .i64) 3 w' w.heap.size (fun k_ => some k_ ≠ (v4_ : Value).ownBlock ∧ some k_ ≠ (v5_ : Value).ownBlock) v3_ r4 ∧ Kd.R (Kd.int .i64) 3 w' w.heap.size (fun k_ => some k_ ≠ (v3_ : Value).ownBlock ∧ some k_ ≠ (v5_ : Value).ownBlock) v4_ r5 ∧ Kd.R (Kd.int .i64) 3 w' w.heap.size (fun k_ => some k_ ≠ (v3_ : Value).ownBlock ∧ some k_ ≠ (v4_ : Value).ownBlock) v5_ r6 ∧ Below w.heap.size w w' := by
 have HLw := Aside0.mk hL
 clear hL
 have hu26 := Tryd.underlying26
 have hu23 := Tryd.underlying23
 have HB := Aside0.mk (Below.refl w.heap.size w)
 have H : ((impl_linesOf.f a0).bind fun bt216 => (if bt216.2 = true then (impl_ParseModel.j0 k bt216.1 (decide ((bt216.1.length : Int) < 2))) else (impl_ParseModel.j0 k bt216.1 true))) = some (r1, r2, r3, r4, r5, r6, r7) := h
 clear h
 replace H := Option.bind_eq_some_iff.mp H
 obtain ⟨⟨t216, t217⟩, A20, H⟩ := H
 replace H : (if t217 = true then (impl_ParseModel.j0 k t216 (decide ((t216.length : Int) < 2))) else (impl_ParseModel.j0 k t216 true)) = some (r1, r2, r3, r4, r5, r6, r7) := H
 have A2 := Aside0.mk A20
 clear A20
 have HC3 := Aside0.mk H
 clear H
 go_enter Tryd.func5, Tryd.ntmps5
 go_upto_region 2 with (first | ((with_reducible refine gate_dst (N := 2) rfl ?_); (try (refine gate_guard (by rfl) ?_; dsimp only)); refine box_event ?hg (N := 2) ?hd (cs := #[.int .i64 0, .int .i64 0, .int .i64 0, .slice none 0 0, .slice none 0 0, .slice none 0 0]) (t := 26) ?hr ?_; (case hd => rfl); (case hg => rfl); (case hr => first | (go_simp; done) | (go_simp; rfl)); intro gb215 hg w4 hbox hb; have BK215 := Aside0.mk (hbox); have GW215 := gs_ hg HB; have GE215 := gs_ hg HB; replace HB := hbs_ HB hb; clear hb hbox hg) | ((with_reducible refine gate_callee (f := 13) rfl ?_); refine gl_ (some 16) Tryd.func13 #[.string a0] rfl rfl rfl ?_; (with_reducible refine (impl_linesOf.calls a0 t216 t217 _ A2.out (by exact LaidW.step HLw (hb_ HB))).mono ?_); rintro e w5 ⟨v218, rfl, ho0, hb⟩; refine ⟨_, rfl, ?_⟩; have HO219 := Kd.R_lo ho0 HB; replace BK215 := kb_ BK215 hb; replace HB := hbs_ HB hb; (try clear hb); (try clear hb2); (try clear hk); (try clear hi); (try clear ho0)))
 (try simp only [Act.put, List.setIfInBounds_toArray, List.set_cons_zero, List.set_cons_succ])
 go_cut [25] (fun v25 wc => ∃ (kq : Nat) (x25_2 : Bool), v25 = .bool x25_2 ∧ Aside0 (impl_ParseModel.j0 kq t216 x25_2 = some (r1, r2, r3, r4, r5, r6, r7)) ∧ Aside0 (kq ≤ k) ∧ Aside0 (Kd.R Kd.string 9 wc w.heap.size (fun _ => True) v218 t216) ∧ Aside0 (wc.heap[gb215]? = some (.cells #[.int .i64 0, .int .i64 0, .int .i64 0, (.slice none 0 0), (.slice none 0 0), (.slice none 0 0)] 26 (0, 0))) ∧ Aside0 (Below w.heap.size w wc))
 case first =>
  have H := HC3.out
  clear HC3
  by_cases c6 : t217 = true
  ·subst c6
   have H1 : (impl_ParseModel.j0 k t216 (decide ((t216.length : Int) < 2))) = some (r1, r2, r3, r4, r5, r6, r7) := by rw [if_pos rfl] at H; exact H
   clear H
   have H := H1
   clear H1
   have H' := Aside0.mk H
   clear H
   obtain ⟨Ao7, co7, eo7⟩ := Kd.R_slice HO219.out
   subst eo7
   go_wp2
   go_meet
   case rel => exact ⟨_, (decide ((t216.length : Int) < 2)), (by first | rfl | (simp; done) | (simp [*]; done)), H', ⟨by first | omega | exact Nat.le_refl _⟩, ⟨Kd.R_p HO219⟩, ⟨kp_ BK215⟩, ⟨hb_ HB⟩⟩
  ·replace c6 := Bool.eq_false_iff.mpr c6
   subst c6
   have H1 : (impl_ParseModel.j0 k t216 true) = some (r1, r2, r3, r4, r5, r6, r7) := by rw [if_neg (show ¬ (false = true) by decide)] at H; exact H
   clear H
   have H := H1
   clear H1
   have H' := Aside0.mk H
   clear H
   go_wp2
   go_meet
   case rel => exact ⟨_, (true), (by first | rfl | (simp; done) | (simp [*]; done)), H', ⟨by first | omega | exact Nat.le_refl _⟩, ⟨Kd.R_p HO219⟩, ⟨kp_ BK215⟩, ⟨hb_ HB⟩⟩
 case rest =>
  clear HC3
  (try clear c1); (try clear p2); (try clear c5); (try clear c6)
  obtain ⟨kq, x25_2, rfl, HA, HJ2, HO_4, BK215, HB⟩ := hcut
  cases kq with
  | zero => exact absurd HA.out (by simp [impl_ParseModel.j0])
  | succ kj2 =>
   have H := HA.out
   clear HA
   simp only [impl_ParseModel.j0] at H
   by_cases c8 : x25_2 = true
   ·subst c8
    have H1 : (some (0, 0, 0, ([] : List Int), ([] : List Int), ([] : List Int), false)) = some (r1, r2, r3, r4, r5, r6, r7) := by rw [if_pos rfl] at H; exact H
    clear H
    have H := H1
    clear H1
    simp only [Option.some.injEq, Prod.mk.injEq] at H
    obtain ⟨rfl, rfl, rfl, rfl, rfl, rfl, rfl⟩ := H
    have hcz9_0 : wc.cell? ⟨gb215, 0, none⟩ = some (.int .i64 0) := (blk_cell BK215.out 0).trans rfl
    have hcz9_1 : wc.cell? ⟨gb215, 1, none⟩ = some (.int .i64 0) := (blk_cell BK215.out 1).trans rfl
    have hcz9_2 : wc.cell? ⟨gb215, 2, none⟩ = some (.int .i64 0) := (blk_cell BK215.out 2).trans rfl
    have hcz9_3 : wc.cell? ⟨gb215, 3, none⟩ = some (.slice none 0 0) := (blk_cell BK215.out 3).trans rfl
    have hcz9_4 : wc.cell? ⟨gb215, 4, none⟩ = some (.slice none 0 0) := (blk_cell BK215.out 4).trans rfl
    have hcz9_5 : wc.cell? ⟨gb215, 5, none⟩ = some (.slice none 0 0) := (blk_cell BK215.out 5).trans rfl
    have hfz9_0 := blk_frozen BK215.out 0
    have hfz9_1 := blk_frozen BK215.out 1
    have hfz9_2 := blk_frozen BK215.out 2
    have hfz9_3 := blk_frozen BK215.out 3
    have hfz9_4 := blk_frozen BK215.out 4
    have hfz9_5 := blk_frozen BK215.out 5
    go_wp2
    refine bodyPost_ret (results_ct rfl _ _ gb215 26 #[.int .i64 0, .int .i64 0, .int .i64 0, .slice none 0 0, .slice none 0 0, .slice none 0 0] (0, 0) _ rfl (kpq_ (kputs BK215 [(0, _), (1, _), (2, _), (3, _), (4, _), (5, _)])) Tryd.underlying26 rfl (by kernel_rfl)) rfl ?_
    exact ⟨_, _, _, by first | rfl | (simp [errW_none, errW_some] <;> rfl) | (simp [*, errW_none, errW_some] <;> rfl), by first | exact Kd.R_nil _ _ _ _ _ | exact Kd.N_nil _ _ _ _ _ | exact Kd.V_nil _ _ _ _ _ | exact Kd.Q_nil _ _ _ _ _ | exact Kd.S_nil _ _ _ _ _, by first | exact Kd.R_nil _ _ _ _ _ | exact Kd.N_nil _ _ _ _ _ | exact Kd.V_nil _ _ _ _ _ | exact Kd.Q_nil _ _ _ _ _ | exact Kd.S_nil _ _ _ _ _, by first | exact Kd.R_nil _ _ _ _ _ | exact Kd.N_nil _ _ _ _ _ | exact Kd.V_nil _ _ _ _ _ | exact Kd.Q_nil _ _ _ _ _ | exact Kd.S_nil _ _ _ _ _, hb_ HB⟩
   ·replace c8 := Bool.eq_false_iff.mpr c8
    subst c8
    have H1 : (if 0 < (t216.length : Int) then ((strings_CutPrefix.f (rdOf ByteArray.empty t216 0) (⟨#[109, 111, 100, 101, 108, 32]⟩ : ByteArray)).bind fun bt222 => ((strings_ReplaceAll.f bt222.1 (⟨#[120]⟩ : ByteArray) (⟨#[32]⟩ : ByteArray)).bind fun t224 => ((impl_decimals.f kj2 t224 3).bind fun bt225 => (if bt222.2 = true then (if bt225.2 = true then ((strings_Contains.f bt222.1 (⟨#[32]⟩ : ByteArray)).bind fun t229 => (impl_ParseModel.j1 kj2 t216 bt225.1 t229)) else (impl_ParseModel.j1 kj2 t216 bt225.1 true)) else (impl_ParseModel.j1 kj2 t216 bt225.1 true))))) else (none)) = some (r1, r2, r3, r4, r5, r6, r7) := by rw [if_neg (show ¬ (false = true) by decide)] at H; exact H
    clear H
    have H := H1
    clear H1
    by_cases c10 : 0 < (t216.length : Int)
    ·rw [if_pos c10] at H
     have c10b0 : decide (0 < (t216.length : Int)) = true := decide_eq_true c10
     have c10b1 : decide (0 < t216.length) = true := decide_eq_true (by omega)
     clear c10
     replace H := Option.bind_eq_some_iff.mp H
     obtain ⟨⟨t222, t223⟩, A110, H⟩ := H
     replace H : ((strings_ReplaceAll.f t222 (⟨#[120]⟩ : ByteArray) (⟨#[32]⟩ : ByteArray)).bind fun t224 => ((impl_decimals.f kj2 t224 3).bind fun bt225 => (if t223 = true then (if bt225.2 = true then ((strings_Contains.f t222 (⟨#[32]⟩ : ByteArray)).bind fun t229 => (impl_ParseModel.j1 kj2 t216 bt225.1 t229)) else (impl_ParseModel.j1 kj2 t216 bt225.1 true)) else (impl_ParseModel.j1 kj2 t216 bt225.1 true)))) = some (r1, r2, r3, r4, r5, r6, r7) := H
     have A11 := Aside0.mk A110
     clear A110
     replace H := Option.bind_eq_some_iff.mp H
     obtain ⟨t224, A120, H⟩ := H
     replace H : ((impl_decimals.f kj2 t224 3).bind fun bt225 => (if t223 = true then (if bt225.2 = true then ((strings_Contains.f t222 (⟨#[32]⟩ : ByteArray)).bind fun t229 => (impl_ParseModel.j1 kj2 t216 bt225.1 t229)) else (impl_ParseModel.j1 kj2 t216 bt225.1 true)) else (impl_ParseModel.j1 kj2 t216 bt225.1 true))) = some (r1, r2, r3, r4, r5, r6, r7) := H
     have A12 := Aside0.mk A120
     clear A120
     replace H := Option.bind_eq_some_iff.mp H
     obtain ⟨⟨t225, t226⟩, A130, H⟩ := H
     replace H : (if t223 = true then (if t226 = true then ((strings_Contains.f t222 (⟨#[32]⟩ : ByteArray)).bind fun t229 => (impl_ParseModel.j1 kj2 t216 t225 t229)) else (impl_ParseModel.j1 kj2 t216 t225 true)) else (impl_ParseModel.j1 kj2 t216 t225 true)) = some (r1, r2, r3, r4, r5, r6, r7) := H
     have A13 := Aside0.mk A130
     clear A130
     have HC14 := Aside0.mk H
     clear H
     go_upto_region 7 with (first | ((with_reducible refine gate_dst (N := 6) rfl ?_); (try (refine gate_guard (by rfl) ?_; dsimp only)); refine box_event ?hg (N := 6) ?hd (cs := #[.int .i64 0, .int .i64 0, .int .i64 0, .slice none 0 0, .slice none 0 0, .slice none 0 0]) (t := 26) ?hr ?_; (case hd => rfl); (case hg => rfl); (case hr => first | (go_simp; done) | (go_simp; rfl)); intro gb220 hg w15 hbox hb; have BK220 := Aside0.mk (hbox); have GW220 := gs_ hg HB; have GE220 := gs_ hg HB; have NB215_220 := nl_ hg BK215; have NB220_215 := ng_ hg BK215; replace HO_4 := Kd.R_b HO_4 hb; replace BK215 := kb_ BK215 hb; replace HB := hbs_ HB hb; clear hb hbox hg; have hnb16 := NB220_215.out; have hnc16 := NB215_220.out; obtain ⟨hcz17_0, hcz17_1, hcz17_2, hcz17_3, hcz17_4, hcz17_5, hfz17_0, hfz17_1, hfz17_2, hfz17_3, hfz17_4, hfz17_5⟩ := bx6 BK220; obtain ⟨Ao18, co18, eo18⟩ := Kd.R_slice HO_4.out; subst eo18; have p221 : 0 ≤ (0 : Int) := (by omega); have q221 : 0 < (t216.length : Int) := of_decide_eq_true (by first | (with_reducible assumption) | assumption); obtain ⟨ad221, e221, hx221_0⟩ := Kd.at_string (Kd.R_reads' HO_4.out).2.2 0 p221 q221; cases e221; have qi221 : (0 < t216.length) = True := eq_true (by omega); (try rw [show ((0 : Int)).toNat = 0 from rfl] at hx221_0); (try rw [Addr.add_zero'] at hx221_0); have hn221_0 : ad221.block ≠ gb220 := Kd.own_blk (Kd.R_ne HO_4.out BK220.out (by decide)); have hn221_1 : ad221.block ≠ gb220 := Kd.own_blk (Kd.R_ne HO_4.out BK220.out (by decide)); have hn221_2 : ad221.block ≠ gb220 := Kd.own_blk (Kd.R_ne HO_4.out BK220.out (by decide)); have hn221_3 : ad221.block ≠ gb220 := Kd.own_blk (Kd.R_ne HO_4.out BK220.out (by decide)); have hn221_4 : ad221.block ≠ gb220 := Kd.own_blk (Kd.R_ne HO_4.out BK220.out (by decide)); have hn221_5 : ad221.block ≠ gb220 := Kd.own_blk (Kd.R_ne HO_4.out BK220.out (by decide)); replace hx221_0 := (cell_far (p := ⟨gb220, 0, none⟩) (by first | (rw [add_block]; exact hn221_0) | (show (Addr.add _ _).block ≠ _; rw [add_block]; exact hn221_0) | exact hn221_0) (.int .i64 0)).trans hx221_0; replace hx221_0 := (cell_far (p := ⟨gb220, 1, none⟩) (by first | (rw [add_block]; exact hn221_1) | (show (Addr.add _ _).block ≠ _; rw [add_block]; exact hn221_1) | exact hn221_1) (.int .i64 0)).trans hx221_0; replace hx221_0 := (cell_far (p := ⟨gb220, 2, none⟩) (by first | (rw [add_block]; exact hn221_2) | (show (Addr.add _ _).block ≠ _; rw [add_block]; exact hn221_2) | exact hn221_2) (.int .i64 0)).trans hx221_0; replace hx221_0 := (cell_far (p := ⟨gb220, 3, none⟩) (by first | (rw [add_block]; exact hn221_3) | (show (Addr.add _ _).block ≠ _; rw [add_block]; exact hn221_3) | exact hn221_3) (.slice none 0 0)).trans hx221_0; replace hx221_0 := (cell_far (p := ⟨gb220, 4, none⟩) (by first | (rw [add_block]; exact hn221_4) | (show (Addr.add _ _).block ≠ _; rw [add_block]; exact hn221_4) | exact hn221_4) (.slice none 0 0)).trans hx221_0; replace hx221_0 := (cell_far (p := ⟨gb220, 5, none⟩) (by first | (rw [add_block]; exact hn221_5) | (show (Addr.add _ _).block ≠ _; rw [add_block]; exact hn221_5) | exact hn221_5) (.slice none 0 0)).trans hx221_0; clear hn221_0 hn221_1 hn221_2 hn221_3 hn221_4 hn221_5; replace p221 := eq_true p221; replace q221 := eq_true q221) | ((with_reducible refine gate_callee (f := 14) rfl ?_); refine gl_ (some 32) Tryd.func14 #[.string (rdOf ByteArray.empty t216 0), .string (⟨#[109, 111, 100, 101, 108, 32]⟩ : ByteArray)] rfl rfl rfl ?_; (with_reducible refine (strings_CutPrefix.calls (rdOf ByteArray.empty t216 0) (⟨#[109, 111, 100, 101, 108, 32]⟩ : ByteArray) t222 t223 _ A11.out).mono ?_); rintro e w' ⟨rfl, ⟨nd, rfl⟩⟩; refine ⟨_, rfl, ?_⟩) | ((with_reducible refine gate_callee (f := 16) rfl ?_); refine gl_ (some 37) Tryd.func16 #[.string t222, .string (⟨#[120]⟩ : ByteArray), .string (⟨#[32]⟩ : ByteArray)] rfl rfl rfl ?_; (with_reducible refine (strings_ReplaceAll.calls t222 (⟨#[120]⟩ : ByteArray) (⟨#[32]⟩ : ByteArray) t224 _ A12.out (by exact LaidW.step HLw (hb_ HB))).mono ?_); rintro e w19 ⟨rfl, hb⟩; refine ⟨_, rfl, ?_⟩; replace HO_4 := Kd.R_sb HO_4 BK220 hb; replace BK215 := kfb_ BK215 NB215_220 hb; replace HB := hbs_ HB hb; replace BK220 := Aside0.mk (blk_below (g := gb220) (o := .cells #[.int .i64 0, .int .i64 0, .int .i64 0, .slice none 0 0, .slice none 0 0, .slice none 0 0] 26 (0, 0)) (kpq_ (kputs BK220 [(0, _), (1, _), (2, _), (3, _), (4, _), (5, _)])) hb); (try clear hb); (try clear hb2); (try clear hk); (try clear hi)) | ((with_reducible refine gate_callee (f := 15) rfl ?_); refine gl_ (some 38) Tryd.func15 #[.string t224, .int .i64 3] rfl rfl rfl ?_; (with_reducible refine (impl_decimals.calls kj2 t224 3 t225 t226 _ A13.out (by exact LaidW.step HLw (hb_ HB))).mono ?_); rintro e w20 ⟨v227, rfl, ho0, hb⟩; refine ⟨_, rfl, ?_⟩; have HO228 := Kd.R_lo ho0 HB; replace HO_4 := Kd.R_b HO_4 hb; replace BK215 := kb_ BK215 hb; replace BK220 := kb_ BK220 hb; replace HB := hbs_ HB hb; (try clear hb); (try clear hb2); (try clear hk); (try clear hi); (try clear ho0)))
     (try simp only [Act.put, List.setIfInBounds_toArray, List.set_cons_zero, List.set_cons_succ])
     go_cut [50] (fun v50 wc => ∃ (kq : Nat) (x50_13 : Bool), v50 = .bool x50_13 ∧ Aside0 (impl_ParseModel.j1 kq t216 t225 x50_13 = some (r1, r2, r3, r4, r5, r6, r7)) ∧ Aside0 (kq ≤ kj2) ∧ Aside0 (Kd.R Kd.string 9 wc w.heap.size (fun _ => True) (.slice (some ad221) t216.length co18) t216) ∧ Aside0 (Kd.R (Kd.int .i64) 3 wc w.heap.size (fun _ => True) v227 t225) ∧ Aside0 (wc.heap[gb215]? = some (.cells #[.int .i64 0, .int .i64 0, .int .i64 0, (.slice none 0 0), (.slice none 0 0), (.slice none 0 0)] 26 (0, 0))) ∧ Aside0 (wc.heap[gb220]? = some (.cells #[.int .i64 0, .int .i64 0, .int .i64 0, (.slice none 0 0), (.slice none 0 0), (.slice none 0 0)] 26 (0, 0))) ∧ Aside0 (Below w.heap.size w wc))
     case first =>
      have H := HC14.out
      clear HC14
      by_cases c21 : t223 = true
      ·subst c21
       have H1 : (if t226 = true then ((strings_Contains.f t222 (⟨#[32]⟩ : ByteArray)).bind fun t229 => (impl_ParseModel.j1 kj2 t216 t225 t229)) else (impl_ParseModel.j1 kj2 t216 t225 true)) = some (r1, r2, r3, r4, r5, r6, r7) := by rw [if_pos rfl] at H; exact H
       clear H
       have H := H1
       clear H1
       by_cases c22 : t226 = true
       ·subst c22
        have H1 : ((strings_Contains.f t222 (⟨#[32]⟩ : ByteArray)).bind fun t229 => (impl_ParseModel.j1 kj2 t216 t225 t229)) = some (r1, r2, r3, r4, r5, r6, r7) := by rw [if_pos rfl] at H; exact H
        clear H
        have H := H1
        clear H1
        replace H := Option.bind_eq_some_iff.mp H
        obtain ⟨t229, A230, H⟩ := H
        replace H : (impl_ParseModel.j1 kj2 t216 t225 t229) = some (r1, r2, r3, r4, r5, r6, r7) := H
        have A23 := Aside0.mk A230
        clear A230
        have H' := Aside0.mk H
        clear H
        go_wp2_with (first | (go_at_call 17; (with_reducible refine (strings_Contains.calls t222 (⟨#[32]⟩ : ByteArray) t229 _ A23.out).mono ?_); rintro e w' ⟨rfl, ⟨nd, rfl⟩⟩))
        go_meet
        case rel => exact ⟨_, (t229), (by first | rfl | (simp; done) | (simp [*]; done)), H', ⟨by have := HJ2.out; first | omega | exact Nat.le_refl _⟩, ⟨Kd.R_p HO_4⟩, ⟨Kd.R_p HO228⟩, ⟨kp_ BK215⟩, ⟨kp_ BK220⟩, ⟨hb_ HB⟩⟩
       ·replace c22 := Bool.eq_false_iff.mpr c22
        subst c22
        have H1 : (impl_ParseModel.j1 kj2 t216 t225 true) = some (r1, r2, r3, r4, r5, r6, r7) := by rw [if_neg (show ¬ (false = true) by decide)] at H; exact H
        clear H
        have H := H1
        clear H1
        have H' := Aside0.mk H
        clear H
        go_wp2
        go_meet
        case rel => exact ⟨_, (true), (by first | rfl | (simp; done) | (simp [*]; done)), H', ⟨by have := HJ2.out; first | omega | exact Nat.le_refl _⟩, ⟨Kd.R_p HO_4⟩, ⟨Kd.R_p HO228⟩, ⟨kp_ BK215⟩, ⟨kp_ BK220⟩, ⟨hb_ HB⟩⟩
      ·replace c21 := Bool.eq_false_iff.mpr c21
       subst c21
       have H1 : (impl_ParseModel.j1 kj2 t216 t225 true) = some (r1, r2, r3, r4, r5, r6, r7) := by rw [if_neg (show ¬ (false = true) by decide)] at H; exact H
       clear H
       have H := H1
       clear H1
       have H' := Aside0.mk H
       clear H
       go_wp2
       go_meet
       case rel => exact ⟨_, (true), (by first | rfl | (simp; done) | (simp [*]; done)), H', ⟨by have := HJ2.out; first | omega | exact Nat.le_refl _⟩, ⟨Kd.R_p HO_4⟩, ⟨Kd.R_p HO228⟩, ⟨kp_ BK215⟩, ⟨kp_ BK220⟩, ⟨hb_ HB⟩⟩
     case rest =>
      clear HC14
      (try clear c1); (try clear c2); (try clear p2); (try clear q2); (try clear hx2); (try clear qi2); (try clear c5); (try clear c6); (try clear c8); (try clear c10); (try clear c10b0); (try clear c10b1); (try clear c13); (try clear c14); (try clear c15); (try clear c16); (try clear c21); (try clear c22); (try clear p22); (try clear q22); (try clear hx22); (try clear qi22); (try clear hcz17_0); (try clear hcz17_1); (try clear hcz17_2); (try clear hcz17_3); (try clear hcz17_4); (try clear hcz17_5); (try clear hfz17_0); (try clear hfz17_1); (try clear hfz17_2); (try clear hfz17_3); (try clear hfz17_4); (try clear hfz17_5); (try clear hx221_0); (try clear p221); (try clear q221)
      obtain ⟨kq, x50_13, rfl, HA, HJ13, HO_4, HO_8, BK215, BK220, HB⟩ := hcut
      cases kq with
      | zero => exact absurd HA.out (by simp [impl_ParseModel.j1])
      | succ kj13 =>
       have H := HA.out
       clear HA
       simp only [impl_ParseModel.j1] at H
       by_cases c24 : x50_13 = true
       ·subst c24
        have H1 : (some (0, 0, 0, ([] : List Int), ([] : List Int), ([] : List Int), false)) = some (r1, r2, r3, r4, r5, r6, r7) := by rw [if_pos rfl] at H; exact H
        clear H
        have H := H1
        clear H1
        simp only [Option.some.injEq, Prod.mk.injEq] at H
        obtain ⟨rfl, rfl, rfl, rfl, rfl, rfl, rfl⟩ := H
        have hnb25 := NB215_220.out
        have hnc25 := NB220_215.out
        have hcz26_0 : wc.cell? ⟨gb215, 0, none⟩ = some (.int .i64 0) := (blk_cell BK215.out 0).trans rfl
        have hcz26_1 : wc.cell? ⟨gb215, 1, none⟩ = some (.int .i64 0) := (blk_cell BK215.out 1).trans rfl
        have hcz26_2 : wc.cell? ⟨gb215, 2, none⟩ = some (.int .i64 0) := (blk_cell BK215.out 2).trans rfl
        have hcz26_3 : wc.cell? ⟨gb215, 3, none⟩ = some (.slice none 0 0) := (blk_cell BK215.out 3).trans rfl
        have hcz26_4 : wc.cell? ⟨gb215, 4, none⟩ = some (.slice none 0 0) := (blk_cell BK215.out 4).trans rfl
        have hcz26_5 : wc.cell? ⟨gb215, 5, none⟩ = some (.slice none 0 0) := (blk_cell BK215.out 5).trans rfl
        have hfz26_0 := blk_frozen BK215.out 0
        have hfz26_1 := blk_frozen BK215.out 1
        have hfz26_2 := blk_frozen BK215.out 2
        have hfz26_3 := blk_frozen BK215.out 3
        have hfz26_4 := blk_frozen BK215.out 4
        have hfz26_5 := blk_frozen BK215.out 5
        go_wp2
        refine bodyPost_ret (results_ct rfl _ _ gb215 26 #[.int .i64 0, .int .i64 0, .int .i64 0, .slice none 0 0, .slice none 0 0, .slice none 0 0] (0, 0) _ rfl (kpq_ (kputs BK215 [(0, _), (1, _), (2, _), (3, _), (4, _), (5, _)])) Tryd.underlying26 rfl (by kernel_rfl)) rfl ?_
        exact ⟨_, _, _, by first | rfl | (simp [errW_none, errW_some] <;> rfl) | (simp [*, errW_none, errW_some] <;> rfl), by first | exact Kd.R_nil _ _ _ _ _ | exact Kd.N_nil _ _ _ _ _ | exact Kd.V_nil _ _ _ _ _ | exact Kd.Q_nil _ _ _ _ _ | exact Kd.S_nil _ _ _ _ _, by first | exact Kd.R_nil _ _ _ _ _ | exact Kd.N_nil _ _ _ _ _ | exact Kd.V_nil _ _ _ _ _ | exact Kd.Q_nil _ _ _ _ _ | exact Kd.S_nil _ _ _ _ _, by first | exact Kd.R_nil _ _ _ _ _ | exact Kd.N_nil _ _ _ _ _ | exact Kd.V_nil _ _ _ _ _ | exact Kd.Q_nil _ _ _ _ _ | exact Kd.S_nil _ _ _ _ _, hb_ HB⟩
       ·replace c24 := Bool.eq_false_iff.mpr c24
        subst c24
        have H1 : (if 0 < (t225.length : Int) then (if 1 < (t225.length : Int) then (if 2 < (t225.length : Int) then (if 1 ≤ (t216.length : Int) then ((some (t216.drop 1 : List ByteArray)).bind fun y233 => (impl_ParseModel.l0 kj13 y233 (y233.length : Int) 0 (rd t225 0) (rd t225 1) (rd t225 2) ([] : List Int) ([] : List Int) ([] : List Int))) else (none)) else (none)) else (none)) else (none)) = some (r1, r2, r3, r4, r5, r6, r7) := by rw [if_neg (show ¬ (false = true) by decide)] at H; exact H
        clear H
        have H := H1
        clear H1
        by_cases c27 : 0 < (t225.length : Int)
        ·rw [if_pos c27] at H
         have c27b0 : decide (0 < (t225.length : Int)) = true := decide_eq_true c27
         have c27b1 : decide (0 < t225.length) = true := decide_eq_true (by omega)
         clear c27
         by_cases c28 : 1 < (t225.length : Int)
         ·rw [if_pos c28] at H
          have c28b0 : decide (1 < (t225.length : Int)) = true := decide_eq_true c28
          have c28b1 : decide (1 < t225.length) = true := decide_eq_true (by omega)
          clear c28
          by_cases c29 : 2 < (t225.length : Int)
          ·rw [if_pos c29] at H
           have c29b0 : decide (2 < (t225.length : Int)) = true := decide_eq_true c29
           have c29b1 : decide (2 < t225.length) = true := decide_eq_true (by omega)
           clear c29
           by_cases c30 : 1 ≤ (t216.length : Int)
           ·rw [if_pos c30] at H
            have c30b0 := eq_true c30
            have c30b1 : decide (1 ≤ (t216.length : Int)) = true := decide_eq_true c30
            clear c30
            obtain ⟨y233, hy233⟩ : ∃ y_ : List ByteArray, y_ = (t216.drop 1) := ⟨_, rfl⟩
            replace H : (impl_ParseModel.l0 kj13 y233 (y233.length : Int) 0 (rd t225 0) (rd t225 1) (rd t225 2) ([] : List Int) ([] : List Int) ([] : List Int)) = some (r1, r2, r3, r4, r5, r6, r7) := by first | (rw [hy233]; with_reducible exact H) | (have H2_ := (Option.bind_some _ _).symm.trans H; rw [hy233]; with_reducible exact H2_) | (have H2_ := (Option.bind_some _ _).symm.trans H; with_reducible exact H2_) | with_reducible exact H | (rw [hy233]; exact H) | exact H
            have Ny233 := Aside0.mk hy233
            clear hy233
            have H' := Aside0.mk H
            clear H
            try go_wp2
            have n0_ := Aside0.mk (Kd.R_drew HO_4.out)
            have n1_ := Aside0.mk (Kd.R_drew HO_8.out)
            have n2_ := Aside0.mk (blk_drew BK215.out)
            have n3_ := Aside0.mk (blk_drew BK220.out)
            have n4_ := Aside0.mk (below_drew1 HB.out)
            clear HO_4
            clear HO_8
            clear BK215
            clear BK220
            clear HB
            have HO_4 := n0_
            have HO_8 := n1_
            have BK215 := n2_
            have BK220 := n3_
            have HB := n4_
            clear n0_ n1_ n2_ n3_ n4_
            obtain ⟨Ao32, co32, eo32⟩ := Kd.R_slice HO_8.out
            (first | subst eo32 | (injection eo32 with f1_ f2_ f3_; have f4_ := f1_.symm; have f5_ := f3_.symm; clear f1_ f2_ f3_; subst f4_; subst f5_))
            have p230 : 0 ≤ (0 : Int) := (by omega)
            have q230 : 0 < (t225.length : Int) := of_decide_eq_true (by first | (with_reducible assumption) | assumption)
            obtain ⟨ad230, e230, hx230_0⟩ := Kd.at_int (Kd.R_reads' HO_8.out).2.2 0 p230 q230
            cases e230
            have qi230 : (0 < t225.length) = True := eq_true (by omega)
            (try rw [show ((0 : Int)).toNat = 0 from rfl] at hx230_0)
            (try rw [Addr.add_zero'] at hx230_0)
            replace p230 := eq_true p230
            replace q230 := eq_true q230
            have p231 : 0 ≤ (1 : Int) := (by omega)
            have q231 : 1 < (t225.length : Int) := of_decide_eq_true (by first | (with_reducible assumption) | assumption)
            obtain ⟨ad231, e231, hx231_0⟩ := Kd.at_int (Kd.R_reads' HO_8.out).2.2 1 p231 q231
            obtain rfl : ad230 = ad231 := (by injection e231)
            (try simp only [show (1 : Int).toNat = 1 from rfl, Nat.reduceMul, Nat.reduceEqDiff, Go.Addr.add, ↓reduceIte] at hx231_0)
            have qi231 : (1 < t225.length) = True := eq_true (by omega)
            (try rw [show ((1 : Int)).toNat = 1 from rfl] at hx231_0)
            replace p231 := eq_true p231
            replace q231 := eq_true q231
            have p232 : 0 ≤ (2 : Int) := (by omega)
            have q232 : 2 < (t225.length : Int) := of_decide_eq_true (by first | (with_reducible assumption) | assumption)
            obtain ⟨ad232, e232, hx232_0⟩ := Kd.at_int (Kd.R_reads' HO_8.out).2.2 2 p232 q232
            obtain rfl : ad230 = ad232 := (by injection e232)
            (try simp only [show (2 : Int).toNat = 2 from rfl, Nat.reduceMul, Nat.reduceEqDiff, Go.Addr.add, ↓reduceIte] at hx232_0)
            have qi232 : (2 < t225.length) = True := eq_true (by omega)
            (try rw [show ((2 : Int)).toNat = 2 from rfl] at hx232_0)
            replace p232 := eq_true p232
            replace q232 := eq_true q232
            refine start_ (n := 12) (S := fun w' => w'.cell? ad230 = some (.int .i64 (rd t225 0)) ∧ w'.cell? ⟨ad230.block, ad230.off + 1, none⟩ = some (.int .i64 (rd t225 1)) ∧ w'.cell? ⟨ad230.block, ad230.off + 2, none⟩ = some (.int .i64 (rd t225 2))) (ds := []) #[false, false, false, false, false, false, false, false, false, false, false, false] (by kernel_rfl) rfl rfl ⟨hx230_0, hx231_0, hx232_0⟩ (fun hHeld => ?_); refine with_tabW impl_ParseModel.tab9 impl_ParseModel.bits9 (fun HT_ HW_ => ?_)
            generalize wc.drew = w31 at HO_4 HO_8 BK215 BK220 HB hx230_0 hx231_0 hx232_0 hHeld ⊢
            refine pure_ (i := 0) (N := some 52) (v := ?_) (a' := ?_) #[true, false, false, false, false, false, false, false, false, false, false, false] rfl rfl (any_of HT_.out (by kernel_rfl)) (fun _ _ _ h => h) (Or.inl ⟨by rfl, ?_⟩) ?_ ?_
            rotate_left
            ·intro w'
             go_simp
             with_reducible rfl
            rotate_left
            ·simp only [Act.put, List.setIfInBounds_toArray, List.set_cons_zero, List.set_cons_succ, i64_w, i32_w]
             rfl
            refine pure_ (i := 1) (N := some 53) (v := ?_) (a' := ?_) #[true, true, false, false, false, false, false, false, false, false, false, false] rfl rfl (any_of HT_.out (by kernel_rfl)) (fun _ _ _ h => h) (Or.inl ⟨by rfl, ?_⟩) ?_ ?_
            rotate_left
            ·intro w'
             go_simp
             with_reducible rfl
            rotate_left
            ·simp only [Act.put, List.setIfInBounds_toArray, List.set_cons_zero, List.set_cons_succ, i64_w, i32_w]
             rfl
            refine pure_ (i := 3) (N := some 55) (v := ?_) (a' := ?_) #[true, true, false, true, false, false, false, false, false, false, false, false] rfl rfl (any_of HT_.out (by kernel_rfl)) (fun _ _ _ h => h) (Or.inl ⟨by rfl, ?_⟩) ?_ ?_
            rotate_left
            ·intro w'
             go_simp
             with_reducible rfl
            rotate_left
            ·simp only [Act.put, List.setIfInBounds_toArray, List.set_cons_zero, List.set_cons_succ, i64_w, i32_w]
             rfl
            refine pure_ (i := 4) (N := some 56) (v := ?_) (a' := ?_) #[true, true, false, true, true, false, false, false, false, false, false, false] rfl rfl (any_of HT_.out (by kernel_rfl)) (fun _ _ _ h => h) (Or.inl ⟨by rfl, ?_⟩) ?_ ?_
            rotate_left
            ·intro w'
             go_simp
             with_reducible rfl
            rotate_left
            ·simp only [Act.put, List.setIfInBounds_toArray, List.set_cons_zero, List.set_cons_succ, i64_w, i32_w]
             rfl
            refine pure_ (i := 6) (N := some 58) (v := ?_) (a' := ?_) #[true, true, false, true, true, false, true, false, false, false, false, false] rfl rfl (any_of HT_.out (by kernel_rfl)) (fun _ _ _ h => h) (Or.inl ⟨by rfl, ?_⟩) ?_ ?_
            rotate_left
            ·intro w'
             go_simp
             with_reducible rfl
            rotate_left
            ·simp only [Act.put, List.setIfInBounds_toArray, List.set_cons_zero, List.set_cons_succ, i64_w, i32_w]
             rfl
            refine pure_ (i := 7) (N := some 59) (v := ?_) (a' := ?_) #[true, true, false, true, true, false, true, true, false, false, false, false] rfl rfl (any_of HT_.out (by kernel_rfl)) (fun _ _ _ h => h) (Or.inl ⟨by rfl, ?_⟩) ?_ ?_
            rotate_left
            ·intro w'
             go_simp
             with_reducible rfl
            rotate_left
            ·simp only [Act.put, List.setIfInBounds_toArray, List.set_cons_zero, List.set_cons_succ, i64_w, i32_w]
             rfl
            refine take_ (i := 2) (N := some 54) (v := ?_) (a' := ?_) #[true, true, true, true, true, false, true, true, false, false, false, false] rfl rfl (take_ofW HT_.out HW_.out (by kernel_rfl)) (fun _ _ _ h => h) (Or.inl ⟨by rfl, ?_⟩) hHeld ?_ ?_
            rotate_left
            ·rintro w' ⟨s0, s1, s2⟩
             go_simp
             with_reducible rfl
            rotate_left
            ·simp only [Act.put, List.setIfInBounds_toArray, List.set_cons_zero, List.set_cons_succ, i64_w, i32_w]
             rfl
            refine take_ (i := 5) (N := some 57) (v := ?_) (a' := ?_) #[true, true, true, true, true, true, true, true, false, false, false, false] rfl rfl (take_ofW HT_.out HW_.out (by kernel_rfl)) (fun _ _ _ h => h) (Or.inl ⟨by rfl, ?_⟩) hHeld ?_ ?_
            rotate_left
            ·rintro w' ⟨s0, s1, s2⟩
             go_simp
             with_reducible rfl
            rotate_left
            ·simp only [Act.put, List.setIfInBounds_toArray, List.set_cons_zero, List.set_cons_succ, i64_w, i32_w]
             rfl
            refine take_ (i := 8) (N := some 60) (v := ?_) (a' := ?_) #[true, true, true, true, true, true, true, true, true, false, false, false] rfl rfl (take_ofW HT_.out HW_.out (by kernel_rfl)) (fun _ _ _ h => h) (Or.inl ⟨by rfl, ?_⟩) hHeld ?_ ?_
            rotate_left
            ·rintro w' ⟨s0, s1, s2⟩
             go_simp
             with_reducible rfl
            rotate_left
            ·simp only [Act.put, List.setIfInBounds_toArray, List.set_cons_zero, List.set_cons_succ, i64_w, i32_w]
             rfl
            refine pure_ (i := 9) (N := some 61) (v := ?_) (a' := ?_) #[true, true, true, true, true, true, true, true, true, true, false, false] rfl rfl (any_of HT_.out (by kernel_rfl)) (fun _ _ _ h => h) (Or.inl ⟨by rfl, ?_⟩) ?_ ?_
            rotate_left
            ·intro w'
             go_simp
             with_reducible rfl
            rotate_left
            ·simp only [Act.put, List.setIfInBounds_toArray, List.set_cons_zero, List.set_cons_succ, i64_w, i32_w]
             rfl
            refine pure_ (i := 10) (N := some 62) (v := ?_) (a' := ?_) #[true, true, true, true, true, true, true, true, true, true, true, false] rfl rfl (any_of HT_.out (by kernel_rfl)) (fun _ _ _ h => h) (Or.inl ⟨by rfl, ?_⟩) ?_ ?_
            rotate_left
            ·intro w'
             go_simp
             with_reducible rfl
            rotate_left
            ·simp only [Act.put, List.setIfInBounds_toArray, List.set_cons_zero, List.set_cons_succ, i64_w, i32_w]
             rfl
            refine one_ (i := 11) (N := none) #[true, true, true, true, true, true, true, true, true, true, true, true] rfl rfl (one_of HT_.out (by kernel_rfl)) (by decide) (fun K hK => ?_)
            have hs33 : w31.cell? ⟨gb220, 0, none⟩ = some (.int .i64 0) := (blk_cell BK220.out 0).trans rfl
            have hfs33 := blk_frozen BK220.out 0
            have hns33_0 := NB215_220.out
            have hms33_0 := NB220_215.out
            have hs34 : w31.cell? ⟨gb220, 1, none⟩ = some (.int .i64 0) := (blk_cell BK220.out 1).trans rfl
            have hfs34 := blk_frozen BK220.out 1
            have hns34_0 := NB215_220.out
            have hms34_0 := NB220_215.out
            have hs35 : w31.cell? ⟨gb220, 2, none⟩ = some (.int .i64 0) := (blk_cell BK220.out 2).trans rfl
            have hfs35 := blk_frozen BK220.out 2
            have hns35_0 := NB215_220.out
            have hms35_0 := NB220_215.out
            refine skip_ (w1 := ?_) (by rfl) rfl ?_ ?_
            rotate_left
            ·go_simp
             rfl
            refine hK.out _ _ ⟨((cell_far (p := ⟨gb220, _, none⟩) (by first | exact Kd.own_blk (Kd.R_ne HO_8.out BK220.out (by decide)) | (rw [add_block]; exact Kd.own_blk (Kd.R_ne HO_8.out BK220.out (by decide))) | (show (Addr.add _ _).block ≠ _; rw [add_block]; exact Kd.own_blk (Kd.R_ne HO_8.out BK220.out (by decide))) | (dsimp only; exact Kd.own_blk (Kd.R_ne HO_8.out BK220.out (by decide)))) _).trans (((cell_far (p := ⟨gb220, _, none⟩) (by first | exact Kd.own_blk (Kd.R_ne HO_8.out BK220.out (by decide)) | (rw [add_block]; exact Kd.own_blk (Kd.R_ne HO_8.out BK220.out (by decide))) | (show (Addr.add _ _).block ≠ _; rw [add_block]; exact Kd.own_blk (Kd.R_ne HO_8.out BK220.out (by decide))) | (dsimp only; exact Kd.own_blk (Kd.R_ne HO_8.out BK220.out (by decide)))) _).trans (((cell_far (p := ⟨gb220, _, none⟩) (by first | exact Kd.own_blk (Kd.R_ne HO_8.out BK220.out (by decide)) | (rw [add_block]; exact Kd.own_blk (Kd.R_ne HO_8.out BK220.out (by decide))) | (show (Addr.add _ _).block ≠ _; rw [add_block]; exact Kd.own_blk (Kd.R_ne HO_8.out BK220.out (by decide))) | (dsimp only; exact Kd.own_blk (Kd.R_ne HO_8.out BK220.out (by decide)))) _).trans (hHeld.1)))))), ((cell_far (p := ⟨gb220, _, none⟩) (by first | exact Kd.own_blk (Kd.R_ne HO_8.out BK220.out (by decide)) | (rw [add_block]; exact Kd.own_blk (Kd.R_ne HO_8.out BK220.out (by decide))) | (show (Addr.add _ _).block ≠ _; rw [add_block]; exact Kd.own_blk (Kd.R_ne HO_8.out BK220.out (by decide))) | (dsimp only; exact Kd.own_blk (Kd.R_ne HO_8.out BK220.out (by decide)))) _).trans (((cell_far (p := ⟨gb220, _, none⟩) (by first | exact Kd.own_blk (Kd.R_ne HO_8.out BK220.out (by decide)) | (rw [add_block]; exact Kd.own_blk (Kd.R_ne HO_8.out BK220.out (by decide))) | (show (Addr.add _ _).block ≠ _; rw [add_block]; exact Kd.own_blk (Kd.R_ne HO_8.out BK220.out (by decide))) | (dsimp only; exact Kd.own_blk (Kd.R_ne HO_8.out BK220.out (by decide)))) _).trans (((cell_far (p := ⟨gb220, _, none⟩) (by first | exact Kd.own_blk (Kd.R_ne HO_8.out BK220.out (by decide)) | (rw [add_block]; exact Kd.own_blk (Kd.R_ne HO_8.out BK220.out (by decide))) | (show (Addr.add _ _).block ≠ _; rw [add_block]; exact Kd.own_blk (Kd.R_ne HO_8.out BK220.out (by decide))) | (dsimp only; exact Kd.own_blk (Kd.R_ne HO_8.out BK220.out (by decide)))) _).trans (hHeld.2.1)))))), ((cell_far (p := ⟨gb220, _, none⟩) (by first | exact Kd.own_blk (Kd.R_ne HO_8.out BK220.out (by decide)) | (rw [add_block]; exact Kd.own_blk (Kd.R_ne HO_8.out BK220.out (by decide))) | (show (Addr.add _ _).block ≠ _; rw [add_block]; exact Kd.own_blk (Kd.R_ne HO_8.out BK220.out (by decide))) | (dsimp only; exact Kd.own_blk (Kd.R_ne HO_8.out BK220.out (by decide)))) _).trans (((cell_far (p := ⟨gb220, _, none⟩) (by first | exact Kd.own_blk (Kd.R_ne HO_8.out BK220.out (by decide)) | (rw [add_block]; exact Kd.own_blk (Kd.R_ne HO_8.out BK220.out (by decide))) | (show (Addr.add _ _).block ≠ _; rw [add_block]; exact Kd.own_blk (Kd.R_ne HO_8.out BK220.out (by decide))) | (dsimp only; exact Kd.own_blk (Kd.R_ne HO_8.out BK220.out (by decide)))) _).trans (((cell_far (p := ⟨gb220, _, none⟩) (by first | exact Kd.own_blk (Kd.R_ne HO_8.out BK220.out (by decide)) | (rw [add_block]; exact Kd.own_blk (Kd.R_ne HO_8.out BK220.out (by decide))) | (show (Addr.add _ _).block ≠ _; rw [add_block]; exact Kd.own_blk (Kd.R_ne HO_8.out BK220.out (by decide))) | (dsimp only; exact Kd.own_blk (Kd.R_ne HO_8.out BK220.out (by decide)))) _).trans (hHeld.2.2))))))⟩ (fun hHeld => ?_)
            clear hK K
            refine done_ (done_of HT_.out (by kernel_rfl)) ?_
            have n0_ : Aside0 (Kd.R Kd.string 9 (((w31.setCell ⟨gb220, 0, none⟩ (.int .i64 (rd t225 0))).setCell ⟨gb220, 1, none⟩ (.int .i64 (rd t225 1))).setCell ⟨gb220, 2, none⟩ (.int .i64 (rd t225 2))) w.heap.size (fun _ => True) (.slice (some ad221) t216.length co18) t216) := ⟨Kd.R_mono (Kd.R_s HO_4 BK220) (fun _ hk => trivial)⟩
            have n1_ : Aside0 (Kd.R (Kd.int .i64) 3 (((w31.setCell ⟨gb220, 0, none⟩ (.int .i64 (rd t225 0))).setCell ⟨gb220, 1, none⟩ (.int .i64 (rd t225 1))).setCell ⟨gb220, 2, none⟩ (.int .i64 (rd t225 2))) w.heap.size (fun _ => True) (.slice (some ad230) t225.length co32) t225) := ⟨Kd.R_mono (Kd.R_s HO_8 BK220) (fun _ hk => trivial)⟩
            have n2_ : Aside0 ((((w31.setCell ⟨gb220, 0, none⟩ (.int .i64 (rd t225 0))).setCell ⟨gb220, 1, none⟩ (.int .i64 (rd t225 1))).setCell ⟨gb220, 2, none⟩ (.int .i64 (rd t225 2))).heap[gb215]? = some (.cells #[.int .i64 0, .int .i64 0, .int .i64 0, .slice none 0 0, .slice none 0 0, .slice none 0 0] 26 (0, 0))) := ⟨kf_ BK215 NB215_220⟩
            have n3_ : Aside0 ((((w31.setCell ⟨gb220, 0, none⟩ (.int .i64 (rd t225 0))).setCell ⟨gb220, 1, none⟩ (.int .i64 (rd t225 1))).setCell ⟨gb220, 2, none⟩ (.int .i64 (rd t225 2))).heap[gb220]? = some (.cells #[.int .i64 (rd t225 0), .int .i64 (rd t225 1), .int .i64 (rd t225 2), .slice none 0 0, .slice none 0 0, .slice none 0 0] 26 (0, 0))) := ⟨kpq_ (kputs BK220 [(0, _), (1, _), (2, _)])⟩
            have n4_ : Aside0 (Below w.heap.size w (((w31.setCell ⟨gb220, 0, none⟩ (.int .i64 (rd t225 0))).setCell ⟨gb220, 1, none⟩ (.int .i64 (rd t225 1))).setCell ⟨gb220, 2, none⟩ (.int .i64 (rd t225 2)))) := ⟨hb_ HB⟩
            (try clear HO_4)
            (try clear HO_8)
            (try clear BK215)
            (try clear BK220)
            (try clear HB)
            generalize (((w31.setCell ⟨gb220, 0, none⟩ (.int .i64 (rd t225 0))).setCell ⟨gb220, 1, none⟩ (.int .i64 (rd t225 1))).setCell ⟨gb220, 2, none⟩ (.int .i64 (rd t225 2))) = w36 at n0_ n1_ n2_ n3_ n4_ ⊢
            have HO_4 := n0_
            have HO_8 := n1_
            have BK215 := n2_
            have BK220 := n3_
            have HB := n4_
            clear n0_ n1_ n2_ n3_ n4_
            have q37 : (1 : Int) ≤ ((t216.length : Int) : Int) := of_decide_eq_true (by first | (with_reducible assumption) | assumption)
            obtain ⟨i037, hi037, _, hsz37, _⟩ := info_parts info9
            have hroom37 : t216.length ≤ co18 := (Kd.R_reads' HO_4.out).2.1
            have hC37 : Kd.C Kd.string _ (some ad221) t216.length t216 := (Kd.R_reads' HO_4.out).2.2
            have hcut37 := cut_from (P := Tryd.prog) 32 9 .i64 Tryd.underlying32 hi037 1 hsz37 (some ad221) t216.length co18 1 (by omega) q37
            have hr37 := Kd.C_drop (m := (1 : Int).toNat) (c := co18) hC37 (by omega) hroom37
            obtain ⟨A37, hA37⟩ : ∃ A1, A1 = (if co18 = (1 : Int).toNat then (some ad221) else ((some ad221) : Option Addr).map (·.add ((1 : Int).toNat * 1))) := ⟨_, rfl⟩
            obtain ⟨c37, hc37⟩ : ∃ c1, c1 = co18 - (1 : Int).toNat := ⟨_, rfl⟩
            have hy37 : y233.length = t216.length - (1 : Int).toNat := (by rw [Ny233.out, List.length_drop] <;> omega)
            rw [show (t216).drop (1 : Int).toNat = y233 from Ny233.out.symm] at hr37
            replace hr37 : Kd.C Kd.string _ A37 y233.length y233 := (by rw [hA37]; exact hr37)
            rw [← hy37, ← hA37, ← hc37] at hcut37
            have HR236 := Aside0.mk hr37
            have HC236 := Aside0.mk (show y233.length ≤ c37 from by rw [hy37, hc37]; exact Nat.sub_le_sub_right hroom37 _)
            clear hr37 hC37 hroom37 hi037 hsz37 hc37
            have KY37 := Aside0.mk hy37
            have KA37 := Aside0.mk hA37
            clear hy37 hA37
            have KL37 := Aside0.mk (show 1 ≤ t216.length from by omega)
            replace q37 := eq_true q37
            try go_wp2
            go_loopg [66] kj13 (fun kq v66 w' => ∃ (x66_3 : Int) (x216000_3 : Int) (x216001_3 : Int) (x216002_3 : Int) (x221003_3 : List Int) (x221004_3 : List Int) (x221005_3 : List Int) (u221003 : Value) (u221004 : Value) (u221005 : Value), v66 = .int .i64 x66_3 ∧ Aside0 (impl_ParseModel.l0 kq y233 (y233.length : Int) x66_3 (rd t225 0) (rd t225 1) (rd t225 2) x221003_3 x221004_3 x221005_3 = some (r1, r2, r3, r4, r5, r6, r7)) ∧ Aside0 (kq ≤ kj13) ∧ Aside0 (Kd.R (Kd.int .i64) 3 w' w.heap.size (fun k_ => some k_ ≠ (u221004 : Value).ownBlock ∧ some k_ ≠ (u221005 : Value).ownBlock) u221003 x221003_3) ∧ Aside0 (Kd.R (Kd.int .i64) 3 w' w.heap.size (fun k_ => some k_ ≠ (u221003 : Value).ownBlock ∧ some k_ ≠ (u221005 : Value).ownBlock) u221004 x221004_3) ∧ Aside0 (Kd.R (Kd.int .i64) 3 w' w.heap.size (fun k_ => some k_ ≠ (u221003 : Value).ownBlock ∧ some k_ ≠ (u221004 : Value).ownBlock) u221005 x221005_3) ∧ Aside0 (w'.heap[gb215]? = some (.cells #[.int .i64 x216000_3, .int .i64 x216001_3, .int .i64 x216002_3, (.slice none 0 0), (.slice none 0 0), (.slice none 0 0)] 26 (0, 0))) ∧ Aside0 (w'.heap[gb220]? = some (.cells #[.int .i64 (rd t225 0), .int .i64 (rd t225 1), .int .i64 (rd t225 2), u221003, u221004, u221005] 26 (0, 0))) ∧ Aside0 (Kd.R Kd.string 9 w' w.heap.size (fun _ => True) (.slice (some ad221) t216.length co18) t216) ∧ Aside0 (Kd.C Kd.string w' A37 y233.length y233) ∧ Aside0 (Below w.heap.size w w'))
            case atStart => exact ⟨(0), (0), (0), (0), (([] : List Int)), (([] : List Int)), (([] : List Int)), (.slice none 0 0), (.slice none 0 0), (.slice none 0 0), (by first | rfl | (simp; done) | (simp [*]; done)), H', ⟨Nat.le_refl _⟩, ⟨by first | exact Kd.R_nil _ _ _ _ _ | exact Kd.N_nil _ _ _ _ _ | exact Kd.V_nil _ _ _ _ _ | exact Kd.Q_nil _ _ _ _ _ | exact Kd.S_nil _ _ _ _ _⟩, ⟨by first | exact Kd.R_nil _ _ _ _ _ | exact Kd.N_nil _ _ _ _ _ | exact Kd.V_nil _ _ _ _ _ | exact Kd.Q_nil _ _ _ _ _ | exact Kd.S_nil _ _ _ _ _⟩, ⟨by first | exact Kd.R_nil _ _ _ _ _ | exact Kd.N_nil _ _ _ _ _ | exact Kd.V_nil _ _ _ _ _ | exact Kd.Q_nil _ _ _ _ _ | exact Kd.S_nil _ _ _ _ _⟩, ⟨kp_ BK215⟩, ⟨kp_ BK220⟩, ⟨Kd.R_mono (Kd.R_p HO_4) (fun _ _ => trivial)⟩, ⟨by repeat (first | (with_reducible exact HR236.out) | (with_reducible refine Kd.C_alloc ?_ _) | (with_reducible refine Kd.C_drewN ?_ _) | (with_reducible refine Kd.C_drew ?_) | exact HR236.out)⟩, ⟨hb_ HB⟩⟩
            case round =>
             clear H'
             (try clear c1); (try clear c2); (try clear p2); (try clear q2); (try clear hx2); (try clear qi2); (try clear c3); (try clear q3); (try clear c5); (try clear c6); (try clear c8); (try clear c10); (try clear c10b0); (try clear c10b1); (try clear c13); (try clear c14); (try clear c15); (try clear c16); (try clear c21); (try clear c22); (try clear p22); (try clear q22); (try clear hx22); (try clear qi22); (try clear p23); (try clear q23); (try clear hx23); (try clear qi23); (try clear c24); (try clear c25); (try clear c27); (try clear c27b0); (try clear c27b1); (try clear c28); (try clear c28b0); (try clear c28b1); (try clear c29); (try clear c29b0); (try clear c29b1); (try clear c30); (try clear c30b0); (try clear c30b1); (try clear c37); (try clear q37); (try clear hx230_0); (try clear hx231_0); (try clear hx232_0); (try clear p230); (try clear p231); (try clear p232); (try clear q230); (try clear q231); (try clear q232); (try clear q37)
             obtain ⟨x66_3, x216000_3, x216001_3, x216002_3, x221003_3, x221004_3, x221005_3, u221003, u221004, u221005, rfl, HA, HK3, HO_221003, HO_221004, HO_221005, BK215, BK220, HO_4, HR236, HB⟩ := hrel
             cases gk with
             | zero => exact absurd HA.out (by simp [impl_ParseModel.l0])
             | succ k3 =>
              have H := HA.out
              clear HA
              simp only [impl_ParseModel.l0] at H
              by_cases c38 : x66_3 < (y233.length : Int)
              ·rw [if_pos c38] at H
               have c38b0 : decide (x66_3 < (y233.length : Int)) = true := decide_eq_true c38
               clear c38
               by_cases c39 : 0 ≤ x66_3
               ·rw [if_pos c39] at H
                have c39b0 : decide (0 ≤ x66_3) = true := decide_eq_true c39
                clear c39
                by_cases c40 : x66_3 < (y233.length : Int)
                ·rw [if_pos c40] at H
                 have c40b0 : decide (x66_3 < (y233.length : Int)) = true := decide_eq_true c40
                 clear c40
                 replace H := Option.bind_eq_some_iff.mp H
                 obtain ⟨⟨t238, t239⟩, A410, H⟩ := H
                 replace H : (if t239 = true then (if 0 < (t238.length : Int) then (if x221003_3.length < 17592186044416 then (if 1 < (t238.length : Int) then (if x221004_3.length < 17592186044416 then (if 2 < (t238.length : Int) then (if x221005_3.length < 17592186044416 then (impl_ParseModel.l0 k3 y233 (y233.length : Int) (wrap64 (x66_3 + 1)) (rd t225 0) (rd t225 1) (rd t225 2) (x221003_3 ++ [rd t238 0]) (x221004_3 ++ [rd t238 1]) (x221005_3 ++ [rd t238 2])) else (none)) else (none)) else (none)) else (none)) else (none)) else (none)) else (some (0, 0, 0, ([] : List Int), ([] : List Int), ([] : List Int), false))) = some (r1, r2, r3, r4, r5, r6, r7) := H
                 have A41 := Aside0.mk A410
                 clear A410
                 by_cases c42 : t239 = true
                 ·subst c42
                  have H1 : (if 0 < (t238.length : Int) then (if x221003_3.length < 17592186044416 then (if 1 < (t238.length : Int) then (if x221004_3.length < 17592186044416 then (if 2 < (t238.length : Int) then (if x221005_3.length < 17592186044416 then (impl_ParseModel.l0 k3 y233 (y233.length : Int) (wrap64 (x66_3 + 1)) (rd t225 0) (rd t225 1) (rd t225 2) (x221003_3 ++ [rd t238 0]) (x221004_3 ++ [rd t238 1]) (x221005_3 ++ [rd t238 2])) else (none)) else (none)) else (none)) else (none)) else (none)) else (none)) = some (r1, r2, r3, r4, r5, r6, r7) := by rw [if_pos rfl] at H; exact H
                  clear H
                  have H := H1
                  clear H1
                  by_cases c43 : 0 < (t238.length : Int)
                  ·rw [if_pos c43] at H
                   have c43b0 : decide (0 < (t238.length : Int)) = true := decide_eq_true c43
                   have c43b1 : decide (0 < t238.length) = true := decide_eq_true (by omega)
                   clear c43
                   by_cases c44 : x221003_3.length < 17592186044416
                   ·rw [if_pos c44] at H
                    have LMc44 := Aside0.mk c44
                    clear c44
                    obtain ⟨y243, hy243⟩ : ∃ y_ : List Int, y_ = (x221003_3 ++ [rd t238 0]) := ⟨_, rfl⟩
                    replace H : (if 1 < (t238.length : Int) then (if x221004_3.length < 17592186044416 then (if 2 < (t238.length : Int) then (if x221005_3.length < 17592186044416 then (impl_ParseModel.l0 k3 y233 (y233.length : Int) (wrap64 (x66_3 + 1)) (rd t225 0) (rd t225 1) (rd t225 2) y243 (x221004_3 ++ [rd t238 1]) (x221005_3 ++ [rd t238 2])) else (none)) else (none)) else (none)) else (none)) = some (r1, r2, r3, r4, r5, r6, r7) := by first | (rw [hy243]; with_reducible exact H) | (have H2_ := (Option.bind_some _ _).symm.trans H; rw [hy243]; with_reducible exact H2_) | (have H2_ := (Option.bind_some _ _).symm.trans H; with_reducible exact H2_) | with_reducible exact H | (rw [hy243]; exact H) | exact H
                    have Ny243 := Aside0.mk hy243
                    clear hy243
                    by_cases c45 : 1 < (t238.length : Int)
                    ·rw [if_pos c45] at H
                     have c45b0 : decide (1 < (t238.length : Int)) = true := decide_eq_true c45
                     have c45b1 : decide (1 < t238.length) = true := decide_eq_true (by omega)
                     clear c45
                     by_cases c46 : x221004_3.length < 17592186044416
                     ·rw [if_pos c46] at H
                      have LMc46 := Aside0.mk c46
                      clear c46
                      obtain ⟨y247, hy247⟩ : ∃ y_ : List Int, y_ = (x221004_3 ++ [rd t238 1]) := ⟨_, rfl⟩
                      replace H : (if 2 < (t238.length : Int) then (if x221005_3.length < 17592186044416 then (impl_ParseModel.l0 k3 y233 (y233.length : Int) (wrap64 (x66_3 + 1)) (rd t225 0) (rd t225 1) (rd t225 2) y243 y247 (x221005_3 ++ [rd t238 2])) else (none)) else (none)) = some (r1, r2, r3, r4, r5, r6, r7) := by first | (rw [hy247]; with_reducible exact H) | (have H2_ := (Option.bind_some _ _).symm.trans H; rw [hy247]; with_reducible exact H2_) | (have H2_ := (Option.bind_some _ _).symm.trans H; with_reducible exact H2_) | with_reducible exact H | (rw [hy247]; exact H) | exact H
                      have Ny247 := Aside0.mk hy247
                      clear hy247
                      by_cases c47 : 2 < (t238.length : Int)
                      ·rw [if_pos c47] at H
                       have c47b0 : decide (2 < (t238.length : Int)) = true := decide_eq_true c47
                       have c47b1 : decide (2 < t238.length) = true := decide_eq_true (by omega)
                       clear c47
                       by_cases c48 : x221005_3.length < 17592186044416
                       ·rw [if_pos c48] at H
                        have LMc48 := Aside0.mk c48
                        clear c48
                        obtain ⟨y251, hy251⟩ : ∃ y_ : List Int, y_ = (x221005_3 ++ [rd t238 2]) := ⟨_, rfl⟩
                        replace H : (impl_ParseModel.l0 k3 y233 (y233.length : Int) (wrap64 (x66_3 + 1)) (rd t225 0) (rd t225 1) (rd t225 2) y243 y247 y251) = some (r1, r2, r3, r4, r5, r6, r7) := by first | (rw [hy251]; with_reducible exact H) | (have H2_ := (Option.bind_some _ _).symm.trans H; rw [hy251]; with_reducible exact H2_) | (have H2_ := (Option.bind_some _ _).symm.trans H; with_reducible exact H2_) | with_reducible exact H | (rw [hy251]; exact H) | exact H
                        have Ny251 := Aside0.mk hy251
                        clear hy251
                        have H' := Aside0.mk H
                        clear H
                        have p237 : 0 ≤ (x66_3 : Int) := of_decide_eq_true (by first | (with_reducible assumption) | assumption)
                        have q237 : x66_3 < (y233.length : Int) := of_decide_eq_true (by first | (with_reducible assumption) | assumption)
                        obtain ⟨ad237, e237, hx237_0⟩ := Kd.at_string HR236.out x66_3 p237 q237
                        cases e237
                        try replace hx237_0 := (HB.out.cell (World.block_lt_of_cell? w _ hx237_0)).trans hx237_0
                        replace p237 := eq_true p237
                        replace q237 := eq_true q237
                        try go_wp2_with (first | ((with_reducible refine gate_callee (f := 15) rfl ?_); refine gl_ (some 72) Tryd.func15 #[.string (rdOf ByteArray.empty y233 x66_3), .int .i64 3] rfl rfl rfl ?_; (with_reducible refine (impl_decimals.calls k3 (rdOf ByteArray.empty y233 x66_3) 3 t238 true _ A41.out (by exact LaidW.step HLw (hb_ HB))).mono ?_); rintro e w49 ⟨v240, rfl, ho0, hb⟩; refine ⟨_, rfl, ?_⟩; have HO241 := Kd.R_lo (Kd.R_nw (Kd.R_nw (Kd.R_nw ho0 HO_221003) HO_221004) HO_221005) HB; replace HO_221003 := Kd.R_e HO_221003 ho0 hb; replace HO_221004 := Kd.R_e HO_221004 ho0 hb; replace HO_221005 := Kd.R_e HO_221005 ho0 hb; replace HO_4 := Kd.R_b HO_4 hb; replace BK215 := kb_ BK215 hb; replace BK220 := kb_ BK220 hb; replace HR236 := Aside0.mk (Kd.C_below (by repeat (first | (with_reducible exact HR236.out) | (with_reducible refine Kd.C_alloc ?_ _) | (with_reducible refine Kd.C_drewN ?_ _) | (with_reducible refine Kd.C_drew ?_) | exact HR236.out)) hb); replace HB := hbs_ HB hb; (try clear hb); (try clear hb2); (try clear hk); (try clear hi); (try clear ho0)))
                        have n0_ := Aside0.mk (Kd.R_drew HO_221003.out)
                        have n1_ := Aside0.mk (Kd.R_drew HO_221004.out)
                        have n2_ := Aside0.mk (Kd.R_drew HO_221005.out)
                        have n3_ := Aside0.mk (Kd.R_drew HO_4.out)
                        have n4_ := Aside0.mk (Kd.R_drew HO241.out)
                        have n5_ := Aside0.mk (blk_drew BK215.out)
                        have n6_ := Aside0.mk (blk_drew BK220.out)
                        have n7_ := Aside0.mk (Kd.C_drew HR236.out)
                        have n8_ := Aside0.mk (below_drew1 HB.out)
                        clear HO_221003
                        clear HO_221004
                        clear HO_221005
                        clear HO_4
                        clear HO241
                        clear BK215
                        clear BK220
                        clear HR236
                        clear HB
                        have HO_221003 := n0_
                        have HO_221004 := n1_
                        have HO_221005 := n2_
                        have HO_4 := n3_
                        have HO241 := n4_
                        have BK215 := n5_
                        have BK220 := n6_
                        have HR236 := n7_
                        have HB := n8_
                        clear n0_ n1_ n2_ n3_ n4_ n5_ n6_ n7_ n8_
                        obtain ⟨Ao51, co51, eo51⟩ := Kd.R_slice HO241.out
                        (first | subst eo51 | (injection eo51 with f1_ f2_ f3_; have f4_ := f1_.symm; have f5_ := f3_.symm; clear f1_ f2_ f3_; subst f4_; subst f5_))
                        have p242 : 0 ≤ (0 : Int) := (by omega)
                        have q242 : 0 < (t238.length : Int) := of_decide_eq_true (by first | (with_reducible assumption) | assumption)
                        obtain ⟨ad242, e242, hx242_0⟩ := Kd.at_int (Kd.R_reads' HO241.out).2.2 0 p242 q242
                        cases e242
                        have qi242 : (0 < t238.length) = True := eq_true (by omega)
                        (try rw [show ((0 : Int)).toNat = 0 from rfl] at hx242_0)
                        (try rw [Addr.add_zero'] at hx242_0)
                        replace p242 := eq_true p242
                        replace q242 := eq_true q242
                        refine start_ (n := 9) (S := fun w' => w'.cell? ⟨gb220, 0, none⟩ = some (.int .i64 (rd t225 0)) ∧ w'.cell? ⟨gb220, 1, none⟩ = some (.int .i64 (rd t225 1)) ∧ w'.cell? ⟨gb220, 2, none⟩ = some (.int .i64 (rd t225 2)) ∧ w'.cell? ⟨gb220, 3, none⟩ = some (u221003) ∧ w'.cell? ⟨gb220, 4, none⟩ = some (u221004) ∧ w'.cell? ⟨gb220, 5, none⟩ = some (u221005) ∧ w'.cell? ad242 = some (.int .i64 (rd t238 0))) (ds := [6, 8]) #[false, false, false, false, false, false, false, false, false] (by kernel_rfl) rfl rfl ⟨(blk_cell BK220.out 0).trans rfl, (blk_cell BK220.out 1).trans rfl, (blk_cell BK220.out 2).trans rfl, (blk_cell BK220.out 3).trans rfl, (blk_cell BK220.out 4).trans rfl, (blk_cell BK220.out 5).trans rfl, hx242_0⟩ (fun hHeld => ?_); refine with_tabW impl_ParseModel.tab16 impl_ParseModel.bits16 (fun HT_ HW_ => ?_)
                        generalize w49.drew = w50 at HO_221003 HO_221004 HO_221005 HO_4 HO241 BK215 BK220 HR236 HB hx242_0 hHeld ⊢
                        refine pure_ (i := 0) (N := some 78) (v := ?_) (a' := ?_) #[true, false, false, false, false, false, false, false, false] rfl rfl (any_of HT_.out (by kernel_rfl)) (fun _ _ _ h => h) (Or.inl ⟨by rfl, ?_⟩) ?_ ?_
                        rotate_left
                        ·intro w'
                         go_simp
                         with_reducible rfl
                        rotate_left
                        ·simp only [Act.put, List.setIfInBounds_toArray, List.set_cons_zero, List.set_cons_succ, i64_w, i32_w]
                         rfl
                        refine pure_ (i := 2) (N := some 80) (v := ?_) (a' := ?_) #[true, false, true, false, false, false, false, false, false] rfl rfl (any_of HT_.out (by kernel_rfl)) (fun _ _ _ h => h) (Or.inl ⟨by rfl, ?_⟩) ?_ ?_
                        rotate_left
                        ·intro w'
                         go_simp
                         with_reducible rfl
                        rotate_left
                        ·simp only [Act.put, List.setIfInBounds_toArray, List.set_cons_zero, List.set_cons_succ, i64_w, i32_w]
                         rfl
                        refine pure_ (i := 3) (N := some 81) (v := ?_) (a' := ?_) #[true, false, true, true, false, false, false, false, false] rfl rfl (any_of HT_.out (by kernel_rfl)) (fun _ _ _ h => h) (Or.inl ⟨by rfl, ?_⟩) ?_ ?_
                        rotate_left
                        ·intro w'
                         go_simp
                         with_reducible rfl
                        rotate_left
                        ·simp only [Act.put, List.setIfInBounds_toArray, List.set_cons_zero, List.set_cons_succ, i64_w, i32_w]
                         rfl
                        refine take_ (i := 1) (N := some 79) (v := ?_) (a' := ?_) #[true, true, true, true, false, false, false, false, false] rfl rfl (take_ofW HT_.out HW_.out (by kernel_rfl)) (fun _ _ _ h => h) (Or.inl ⟨by rfl, ?_⟩) hHeld ?_ ?_
                        rotate_left
                        ·rintro w' ⟨s0, s1, s2, s3, s4, s5, s6⟩
                         go_simp
                         with_reducible rfl
                        rotate_left
                        ·simp only [Act.put, List.setIfInBounds_toArray, List.set_cons_zero, List.set_cons_succ, i64_w, i32_w]
                         rfl
                        refine take_ (i := 4) (N := some 82) (v := ?_) (a' := ?_) #[true, true, true, true, true, false, false, false, false] rfl rfl (take_ofW HT_.out HW_.out (by kernel_rfl)) (fun _ _ _ h => h) (Or.inl ⟨by rfl, ?_⟩) hHeld ?_ ?_
                        rotate_left
                        ·rintro w' ⟨s0, s1, s2, s3, s4, s5, s6⟩
                         go_simp
                         with_reducible rfl
                        rotate_left
                        ·simp only [Act.put, List.setIfInBounds_toArray, List.set_cons_zero, List.set_cons_succ, i64_w, i32_w]
                         rfl
                        refine one_ (i := 5) (N := some 83) #[true, true, true, true, true, true, false, false, false] rfl rfl (one_of HT_.out (by kernel_rfl)) (by decide) (fun K hK => ?_)
                        refine value_ (w1 := ?_) (v := ?_) (by rfl) rfl ?_ ?_
                        rotate_left 2
                        ·go_simp
                         constructor
                         ·rfl
                         ·rfl
                        refine hK.out _ _ ⟨(blk_cell (blk_alloc BK220.out _) 0).trans rfl, (blk_cell (blk_alloc BK220.out _) 1).trans rfl, (blk_cell (blk_alloc BK220.out _) 2).trans rfl, (blk_cell (blk_alloc BK220.out _) 3).trans rfl, (blk_cell (blk_alloc BK220.out _) 4).trans rfl, (blk_cell (blk_alloc BK220.out _) 5).trans rfl, (World.cell?_alloc_lt _ _ _ (World.block_lt_of_cell? _ _ (hHeld.2.2.2.2.2.2))).trans (hHeld.2.2.2.2.2.2)⟩ (fun hHeld => ?_)
                        clear hK K
                        refine norm_ (a' := ?_) ?_ ?_
                        rotate_left
                        ·show Act.put _ (some 83) _ = _
                         simp only [Act.put, List.setIfInBounds_toArray, List.set_cons_zero, List.set_cons_succ, i64_w, i32_w]
                         rfl
                        refine last_ (i := 6) (N := some 84) #[true, true, true, true, true, true, true, false, false] rfl rfl (one_of HT_.out (by kernel_rfl)) (by decide) (fun K hK => ?_)
                        refine Kd.R_append_step (Kd.int .i64) (w0 := w) w.heap.size (by rfl) (.tmp 79) (.tmp 83) 24 3 (.int .i64 0) 8 rfl Tryd.underlying24 info3 rfl (by decide) (by omega) u221003 x221003_3 (rd t238 0) [.int .i64 (rd t238 0)] (fun k_ => some k_ ≠ (u221004 : Value).ownBlock ∧ some k_ ≠ (u221005 : Value).ownBlock ∧ some k_ ≠ (.slice (some ad242) t238.length co51 : Value).ownBlock) (fun _ => False) rfl rfl ?aP (fun _ hk => hk.elim) ?aF ?aO ?aB ?aS ?aL ?_
                        (case aP => exact rfl)
                        (case aB => exact (hb_ HB))
                        (case aF => exact (fun k_ hk => ⟨Kd.fresh' (Kd.R_lt (Kd.R_p HO_221004)) k_ hk, Kd.fresh' (Kd.R_lt (Kd.R_p HO_221005)) k_ hk, Kd.fresh' (Kd.R_lt (Kd.R_p HO241)) k_ hk⟩))
                        (case aO => exact (Kd.R_pp (Kd.R_mono HO_221003.out (fun _ hk => ⟨hk.1.1, ⟨hk.1.2, hk.2⟩⟩))))
                        (case aS => exact (below_size (hb_ HB)))
                        (case aL => have := LMc44.out; omega)
                        intro v244 w52 ho hb hg hat
                        rw [← Ny243.out] at ho
                        have n0_ := Aside0.mk (Kd.R_after (ok := (fun k_ => some k_ ≠ (u221005 : Value).ownBlock ∧ some k_ ≠ (.slice (some ad242) t238.length co51 : Value).ownBlock)) (Kd.R_pp (Kd.R_mono HO_221004.out (fun _ hk => ⟨⟨hk.1.2, hk.2⟩, hk.1.1⟩))) hg hat)
                        have n1_ := Aside0.mk (Kd.R_after (ok := (fun k_ => some k_ ≠ (u221004 : Value).ownBlock ∧ some k_ ≠ (.slice (some ad242) t238.length co51 : Value).ownBlock)) (Kd.R_pp (Kd.R_mono HO_221005.out (fun _ hk => ⟨⟨hk.1.2, hk.2⟩, hk.1.1⟩))) hg hat)
                        have n2_ := Aside0.mk (blk_grown (kp_ BK215) hg (Kd.R_ne HO_221003.out BK215.out (by decide)))
                        have n3_ := Aside0.mk (blk_grown (kp_ BK220) hg (Kd.R_ne HO_221003.out BK220.out (by decide)))
                        have n4_ := Aside0.mk (Kd.R_over' (Kd.R_p HO_4) (Kd.R_typed (Kd.R_p HO_221003)) (by decide) hg)
                        have n5_ := Aside0.mk (Kd.R_after (ok := (fun k_ => some k_ ≠ (u221004 : Value).ownBlock ∧ some k_ ≠ (u221005 : Value).ownBlock)) (Kd.R_pp (Kd.R_mono HO241.out (fun _ hk => ⟨⟨hk.1.2, hk.2⟩, hk.1.1.2⟩))) hg hat)
                        have n6_ := Aside0.mk (hb)
                        have n7_ := Aside0.mk ((show Kd.C Kd.string w52 (some ad237) y233.length y233 from by rw [Ny233.out, KA37.out]; exact Kd.C_drop (m := 1) (c := co18) ((Kd.R_reads' (Kd.R_over' (Kd.R_p HO_4) (Kd.R_typed (Kd.R_p HO_221003)) (by decide) hg)).2.2) KL37.out ((Kd.R_reads' (Kd.R_over' (Kd.R_p HO_4) (Kd.R_typed (Kd.R_p HO_221003)) (by decide) hg)).2.1)))
                        have n8_ := Aside0.mk (ho)
                        clear HO_221004
                        clear HO_221005
                        clear BK215
                        clear BK220
                        clear HO_4
                        clear HO241
                        clear HB
                        clear HR236
                        clear HO_221003
                        have HO_221004 := n0_
                        have HO_221005 := n1_
                        have BK215 := n2_
                        have BK220 := n3_
                        have HO_4 := n4_
                        have HO241 := n5_
                        have HB := n6_
                        have HR236 := n7_
                        have HO245 := n8_
                        clear n0_ n1_ n2_ n3_ n4_ n5_ n6_ n7_ n8_
                        clear ho hb hg hat
                        obtain ⟨Ao53, co53, eo53⟩ := Kd.R_slice HO245.out
                        (first | subst eo53 | (injection eo53 with f1_ f2_ f3_; have f4_ := f1_.symm; have f5_ := f3_.symm; clear f1_ f2_ f3_; subst f4_; subst f5_))
                        refine hK.out _ _ ?_
                        clear hK K
                        refine norm_ (a' := ?_) ?_ ?_
                        rotate_left
                        ·show Act.put _ (some 84) _ = _
                         simp only [Act.put, List.setIfInBounds_toArray, List.set_cons_zero, List.set_cons_succ, i64_w, i32_w]
                         rfl
                        refine pure_ (i := 7) (N := some 85) (v := ?_) (a' := ?_) #[true, true, true, true, true, true, true, true, false] rfl rfl (any_of HT_.out (by kernel_rfl)) (fun _ _ _ h => h) (Or.inl ⟨by rfl, ?_⟩) ?_ ?_
                        rotate_left
                        ·intro w'
                         go_simp
                         with_reducible rfl
                        rotate_left
                        ·simp only [Act.put, List.setIfInBounds_toArray, List.set_cons_zero, List.set_cons_succ, i64_w, i32_w]
                         rfl
                        refine last_ (i := 8) (N := none) #[true, true, true, true, true, true, true, true, true] rfl rfl (one_of HT_.out (by kernel_rfl)) (by decide) (fun K hK => ?_)
                        have hs54 : w52.cell? ⟨gb220, 3, none⟩ = some (u221003) := (blk_cell BK220.out 3).trans rfl
                        have hfs54 := blk_frozen BK220.out 3
                        have hns54_0 := NB215_220.out
                        have hms54_0 := NB220_215.out
                        refine skip_ (w1 := ?_) (by rfl) rfl ?_ ?_
                        rotate_left
                        ·go_simp
                         rfl
                        refine hK.out _ _ ?_
                        clear hK K
                        refine done_ (done_of HT_.out (by kernel_rfl)) ?_
                        try go_wp2
                        have n0_ : Aside0 (Kd.R (Kd.int .i64) 3 (w52.setCell ⟨gb220, 3, none⟩ (.slice Ao53 y243.length co53)) w.heap.size (fun k_ => some k_ ≠ (u221005 : Value).ownBlock ∧ some k_ ≠ (.slice (some ad242) t238.length co51 : Value).ownBlock ∧ some k_ ≠ (.slice Ao53 y243.length co53 : Value).ownBlock) u221004 x221004_3) := ⟨Kd.R_mono (Kd.R_s HO_221004 BK220) (fun _ hk => ⟨hk.1.1, ⟨hk.1.2, hk.2⟩⟩)⟩
                        have n1_ : Aside0 (Kd.R (Kd.int .i64) 3 (w52.setCell ⟨gb220, 3, none⟩ (.slice Ao53 y243.length co53)) w.heap.size (fun k_ => some k_ ≠ (u221004 : Value).ownBlock ∧ some k_ ≠ (.slice (some ad242) t238.length co51 : Value).ownBlock ∧ some k_ ≠ (.slice Ao53 y243.length co53 : Value).ownBlock) u221005 x221005_3) := ⟨Kd.R_mono (Kd.R_s HO_221005 BK220) (fun _ hk => ⟨hk.1.1, ⟨hk.1.2, hk.2⟩⟩)⟩
                        have n2_ : Aside0 (Kd.R Kd.string 9 (w52.setCell ⟨gb220, 3, none⟩ (.slice Ao53 y243.length co53)) w.heap.size (fun _ => True) (.slice (some ad221) t216.length co18) t216) := ⟨Kd.R_mono (Kd.R_s HO_4 BK220) (fun _ hk => trivial)⟩
                        have n3_ : Aside0 (Kd.R (Kd.int .i64) 3 (w52.setCell ⟨gb220, 3, none⟩ (.slice Ao53 y243.length co53)) w.heap.size (fun k_ => some k_ ≠ (u221004 : Value).ownBlock ∧ some k_ ≠ (u221005 : Value).ownBlock ∧ some k_ ≠ (.slice Ao53 y243.length co53 : Value).ownBlock) (.slice (some ad242) t238.length co51) t238) := ⟨Kd.R_mono (Kd.R_s HO241 BK220) (fun _ hk => ⟨hk.1.1, ⟨hk.1.2, hk.2⟩⟩)⟩
                        have n4_ : Aside0 (Kd.R (Kd.int .i64) 3 (w52.setCell ⟨gb220, 3, none⟩ (.slice Ao53 y243.length co53)) w.heap.size (fun k_ => some k_ ≠ (u221004 : Value).ownBlock ∧ some k_ ≠ (u221005 : Value).ownBlock ∧ some k_ ≠ (.slice (some ad242) t238.length co51 : Value).ownBlock) (.slice Ao53 y243.length co53) y243) := ⟨Kd.R_mono (Kd.R_s HO245 BK220) (fun _ hk => ⟨hk.1, ⟨hk.2.1, hk.2.2⟩⟩)⟩
                        have n5_ : Aside0 ((w52.setCell ⟨gb220, 3, none⟩ (.slice Ao53 y243.length co53)).heap[gb215]? = some (.cells #[.int .i64 x216000_3, .int .i64 x216001_3, .int .i64 x216002_3, .slice none 0 0, .slice none 0 0, .slice none 0 0] 26 (0, 0))) := ⟨kf_ BK215 NB215_220⟩
                        have n6_ : Aside0 ((w52.setCell ⟨gb220, 3, none⟩ (.slice Ao53 y243.length co53)).heap[gb220]? = some (.cells #[.int .i64 (rd t225 0), .int .i64 (rd t225 1), .int .i64 (rd t225 2), .slice Ao53 y243.length co53, u221004, u221005] 26 (0, 0))) := ⟨kpq_ (kputs BK220 [(3, _)])⟩
                        have n7_ : Aside0 (Below w.heap.size w (w52.setCell ⟨gb220, 3, none⟩ (.slice Ao53 y243.length co53))) := ⟨hb_ HB⟩
                        (try clear HO_221004)
                        (try clear HO_221005)
                        (try clear HO_4)
                        (try clear HO241)
                        (try clear HO245)
                        (try clear BK215)
                        (try clear BK220)
                        (try clear HB)
                        generalize (w52.setCell ⟨gb220, 3, none⟩ (.slice Ao53 y243.length co53)) = w55 at n0_ n1_ n2_ n3_ n4_ n5_ n6_ n7_ ⊢
                        have HO_221004 := n0_
                        have HO_221005 := n1_
                        have HO_4 := n2_
                        have HO241 := n3_
                        have HO245 := n4_
                        have BK215 := n5_
                        have BK220 := n6_
                        have HB := n7_
                        clear n0_ n1_ n2_ n3_ n4_ n5_ n6_ n7_
                        have n0_ := Aside0.mk (Kd.R_drew HO_221004.out)
                        have n1_ := Aside0.mk (Kd.R_drew HO_221005.out)
                        have n2_ := Aside0.mk (Kd.R_drew HO_4.out)
                        have n3_ := Aside0.mk (Kd.R_drew HO241.out)
                        have n4_ := Aside0.mk (Kd.R_drew HO245.out)
                        have n5_ := Aside0.mk (blk_drew BK215.out)
                        have n6_ := Aside0.mk (blk_drew BK220.out)
                        have n7_ := Aside0.mk (below_drew1 HB.out)
                        clear HO_221004
                        clear HO_221005
                        clear HO_4
                        clear HO241
                        clear HO245
                        clear BK215
                        clear BK220
                        clear HB
                        have HO_221004 := n0_
                        have HO_221005 := n1_
                        have HO_4 := n2_
                        have HO241 := n3_
                        have HO245 := n4_
                        have BK215 := n5_
                        have BK220 := n6_
                        have HB := n7_
                        clear n0_ n1_ n2_ n3_ n4_ n5_ n6_ n7_
                        have p246 : 0 ≤ (1 : Int) := (by omega)
                        have q246 : 1 < (t238.length : Int) := of_decide_eq_true (by first | (with_reducible assumption) | assumption)
                        obtain ⟨ad246, e246, hx246_0⟩ := Kd.at_int (Kd.R_reads' HO241.out).2.2 1 p246 q246
                        obtain rfl : ad242 = ad246 := (by injection e246)
                        (try simp only [show (1 : Int).toNat = 1 from rfl, Nat.reduceMul, Nat.reduceEqDiff, Go.Addr.add, ↓reduceIte] at hx246_0)
                        have qi246 : (1 < t238.length) = True := eq_true (by omega)
                        (try rw [show ((1 : Int)).toNat = 1 from rfl] at hx246_0)
                        replace p246 := eq_true p246
                        replace q246 := eq_true q246
                        refine start_ (n := 9) (S := fun w' => w'.cell? ⟨gb220, 0, none⟩ = some (.int .i64 (rd t225 0)) ∧ w'.cell? ⟨gb220, 1, none⟩ = some (.int .i64 (rd t225 1)) ∧ w'.cell? ⟨gb220, 2, none⟩ = some (.int .i64 (rd t225 2)) ∧ w'.cell? ⟨gb220, 3, none⟩ = some (.slice Ao53 y243.length co53) ∧ w'.cell? ⟨gb220, 4, none⟩ = some (u221004) ∧ w'.cell? ⟨gb220, 5, none⟩ = some (u221005) ∧ w'.cell? ⟨ad242.block, ad242.off + 1, none⟩ = some (.int .i64 (rd t238 1))) (ds := [6, 8]) #[false, false, false, false, false, false, false, false, false] (by kernel_rfl) rfl rfl ⟨(blk_cell BK220.out 0).trans rfl, (blk_cell BK220.out 1).trans rfl, (blk_cell BK220.out 2).trans rfl, (blk_cell BK220.out 3).trans rfl, (blk_cell BK220.out 4).trans rfl, (blk_cell BK220.out 5).trans rfl, hx246_0⟩ (fun hHeld => ?_); refine with_tabW impl_ParseModel.tab17 impl_ParseModel.bits17 (fun HT_ HW_ => ?_)
                        generalize w55.drew = w56 at HO_221004 HO_221005 HO_4 HO241 HO245 BK215 BK220 HB hx246_0 hHeld ⊢
                        refine pure_ (i := 0) (N := some 86) (v := ?_) (a' := ?_) #[true, false, false, false, false, false, false, false, false] rfl rfl (any_of HT_.out (by kernel_rfl)) (fun _ _ _ h => h) (Or.inl ⟨by rfl, ?_⟩) ?_ ?_
                        rotate_left
                        ·intro w'
                         go_simp
                         with_reducible rfl
                        rotate_left
                        ·simp only [Act.put, List.setIfInBounds_toArray, List.set_cons_zero, List.set_cons_succ, i64_w, i32_w]
                         rfl
                        refine pure_ (i := 2) (N := some 88) (v := ?_) (a' := ?_) #[true, false, true, false, false, false, false, false, false] rfl rfl (any_of HT_.out (by kernel_rfl)) (fun _ _ _ h => h) (Or.inl ⟨by rfl, ?_⟩) ?_ ?_
                        rotate_left
                        ·intro w'
                         go_simp
                         with_reducible rfl
                        rotate_left
                        ·simp only [Act.put, List.setIfInBounds_toArray, List.set_cons_zero, List.set_cons_succ, i64_w, i32_w]
                         rfl
                        refine pure_ (i := 3) (N := some 89) (v := ?_) (a' := ?_) #[true, false, true, true, false, false, false, false, false] rfl rfl (any_of HT_.out (by kernel_rfl)) (fun _ _ _ h => h) (Or.inl ⟨by rfl, ?_⟩) ?_ ?_
                        rotate_left
                        ·intro w'
                         go_simp
                         with_reducible rfl
                        rotate_left
                        ·simp only [Act.put, List.setIfInBounds_toArray, List.set_cons_zero, List.set_cons_succ, i64_w, i32_w]
                         rfl
                        refine take_ (i := 1) (N := some 87) (v := ?_) (a' := ?_) #[true, true, true, true, false, false, false, false, false] rfl rfl (take_ofW HT_.out HW_.out (by kernel_rfl)) (fun _ _ _ h => h) (Or.inl ⟨by rfl, ?_⟩) hHeld ?_ ?_
                        rotate_left
                        ·rintro w' ⟨s0, s1, s2, s3, s4, s5, s6⟩
                         go_simp
                         with_reducible rfl
                        rotate_left
                        ·simp only [Act.put, List.setIfInBounds_toArray, List.set_cons_zero, List.set_cons_succ, i64_w, i32_w]
                         rfl
                        refine take_ (i := 4) (N := some 90) (v := ?_) (a' := ?_) #[true, true, true, true, true, false, false, false, false] rfl rfl (take_ofW HT_.out HW_.out (by kernel_rfl)) (fun _ _ _ h => h) (Or.inl ⟨by rfl, ?_⟩) hHeld ?_ ?_
                        rotate_left
                        ·rintro w' ⟨s0, s1, s2, s3, s4, s5, s6⟩
                         go_simp
                         with_reducible rfl
                        rotate_left
                        ·simp only [Act.put, List.setIfInBounds_toArray, List.set_cons_zero, List.set_cons_succ, i64_w, i32_w]
                         rfl
                        refine one_ (i := 5) (N := some 91) #[true, true, true, true, true, true, false, false, false] rfl rfl (one_of HT_.out (by kernel_rfl)) (by decide) (fun K hK => ?_)
                        refine value_ (w1 := ?_) (v := ?_) (by rfl) rfl ?_ ?_
                        rotate_left 2
                        ·go_simp
                         constructor
                         ·rfl
                         ·rfl
                        refine hK.out _ _ ⟨(blk_cell (blk_alloc BK220.out _) 0).trans rfl, (blk_cell (blk_alloc BK220.out _) 1).trans rfl, (blk_cell (blk_alloc BK220.out _) 2).trans rfl, (blk_cell (blk_alloc BK220.out _) 3).trans rfl, (blk_cell (blk_alloc BK220.out _) 4).trans rfl, (blk_cell (blk_alloc BK220.out _) 5).trans rfl, (World.cell?_alloc_lt _ _ _ (World.block_lt_of_cell? _ _ (hHeld.2.2.2.2.2.2))).trans (hHeld.2.2.2.2.2.2)⟩ (fun hHeld => ?_)
                        clear hK K
                        refine norm_ (a' := ?_) ?_ ?_
                        rotate_left
                        ·show Act.put _ (some 91) _ = _
                         simp only [Act.put, List.setIfInBounds_toArray, List.set_cons_zero, List.set_cons_succ, i64_w, i32_w]
                         rfl
                        refine last_ (i := 6) (N := some 92) #[true, true, true, true, true, true, true, false, false] rfl rfl (one_of HT_.out (by kernel_rfl)) (by decide) (fun K hK => ?_)
                        refine Kd.R_append_step (Kd.int .i64) (w0 := w) w.heap.size (by rfl) (.tmp 87) (.tmp 91) 24 3 (.int .i64 0) 8 rfl Tryd.underlying24 info3 rfl (by decide) (by omega) u221004 x221004_3 (rd t238 1) [.int .i64 (rd t238 1)] (fun k_ => some k_ ≠ (u221005 : Value).ownBlock ∧ some k_ ≠ (.slice (some ad242) t238.length co51 : Value).ownBlock ∧ some k_ ≠ (.slice Ao53 y243.length co53 : Value).ownBlock) (fun _ => False) rfl rfl ?aP (fun _ hk => hk.elim) ?aF ?aO ?aB ?aS ?aL ?_
                        (case aP => exact rfl)
                        (case aB => exact (hb_ HB))
                        (case aF => exact (fun k_ hk => ⟨Kd.fresh' (Kd.R_lt (Kd.R_p HO_221005)) k_ hk, Kd.fresh' (Kd.R_lt (Kd.R_p HO241)) k_ hk, Kd.fresh' (Kd.R_lt (Kd.R_p HO245)) k_ hk⟩))
                        (case aO => exact (Kd.R_p HO_221004))
                        (case aS => exact (below_size (hb_ HB)))
                        (case aL => have := LMc46.out; omega)
                        intro v248 w57 ho hb hg hat
                        rw [← Ny247.out] at ho
                        have n0_ := Aside0.mk (Kd.R_after (ok := (fun k_ => some k_ ≠ (.slice (some ad242) t238.length co51 : Value).ownBlock ∧ some k_ ≠ (.slice Ao53 y243.length co53 : Value).ownBlock)) (Kd.R_pp (Kd.R_mono HO_221005.out (fun _ hk => ⟨⟨hk.2.1, hk.2.2⟩, hk.1⟩))) hg hat)
                        have n1_ := Aside0.mk (blk_grown (kp_ BK215) hg (Kd.R_ne HO_221004.out BK215.out (by decide)))
                        have n2_ := Aside0.mk (blk_grown (kp_ BK220) hg (Kd.R_ne HO_221004.out BK220.out (by decide)))
                        have n3_ := Aside0.mk (Kd.R_over' (Kd.R_p HO_4) (Kd.R_typed (Kd.R_p HO_221004)) (by decide) hg)
                        have n4_ := Aside0.mk (Kd.R_after (ok := (fun k_ => some k_ ≠ (u221005 : Value).ownBlock ∧ some k_ ≠ (.slice Ao53 y243.length co53 : Value).ownBlock)) (Kd.R_pp (Kd.R_mono HO241.out (fun _ hk => ⟨⟨hk.2.1, hk.2.2⟩, hk.1⟩))) hg hat)
                        have n5_ := Aside0.mk (Kd.R_after (ok := (fun k_ => some k_ ≠ (u221005 : Value).ownBlock ∧ some k_ ≠ (.slice (some ad242) t238.length co51 : Value).ownBlock)) (Kd.R_pp (Kd.R_mono HO245.out (fun _ hk => ⟨⟨hk.2.1, hk.2.2⟩, hk.1⟩))) hg hat)
                        have n6_ := Aside0.mk (hb)
                        have n7_ := Aside0.mk (ho)
                        clear HO_221005
                        clear BK215
                        clear BK220
                        clear HO_4
                        clear HO241
                        clear HO245
                        clear HB
                        clear HO_221004
                        have HO_221005 := n0_
                        have BK215 := n1_
                        have BK220 := n2_
                        have HO_4 := n3_
                        have HO241 := n4_
                        have HO245 := n5_
                        have HB := n6_
                        have HO249 := n7_
                        clear n0_ n1_ n2_ n3_ n4_ n5_ n6_ n7_
                        clear ho hb hg hat
                        obtain ⟨Ao58, co58, eo58⟩ := Kd.R_slice HO249.out
                        (first | subst eo58 | (injection eo58 with f1_ f2_ f3_; have f4_ := f1_.symm; have f5_ := f3_.symm; clear f1_ f2_ f3_; subst f4_; subst f5_))
                        refine hK.out _ _ ?_
                        clear hK K
                        refine norm_ (a' := ?_) ?_ ?_
                        rotate_left
                        ·show Act.put _ (some 92) _ = _
                         simp only [Act.put, List.setIfInBounds_toArray, List.set_cons_zero, List.set_cons_succ, i64_w, i32_w]
                         rfl
                        refine pure_ (i := 7) (N := some 93) (v := ?_) (a' := ?_) #[true, true, true, true, true, true, true, true, false] rfl rfl (any_of HT_.out (by kernel_rfl)) (fun _ _ _ h => h) (Or.inl ⟨by rfl, ?_⟩) ?_ ?_
                        rotate_left
                        ·intro w'
                         go_simp
                         with_reducible rfl
                        rotate_left
                        ·simp only [Act.put, List.setIfInBounds_toArray, List.set_cons_zero, List.set_cons_succ, i64_w, i32_w]
                         rfl
                        refine last_ (i := 8) (N := none) #[true, true, true, true, true, true, true, true, true] rfl rfl (one_of HT_.out (by kernel_rfl)) (by decide) (fun K hK => ?_)
                        have hs59 : w57.cell? ⟨gb220, 4, none⟩ = some (u221004) := (blk_cell BK220.out 4).trans rfl
                        have hfs59 := blk_frozen BK220.out 4
                        have hns59_0 := NB215_220.out
                        have hms59_0 := NB220_215.out
                        refine skip_ (w1 := ?_) (by rfl) rfl ?_ ?_
                        rotate_left
                        ·go_simp
                         rfl
                        refine hK.out _ _ ?_
                        clear hK K
                        refine done_ (done_of HT_.out (by kernel_rfl)) ?_
                        try go_wp2
                        have n0_ : Aside0 (Kd.R (Kd.int .i64) 3 (w57.setCell ⟨gb220, 4, none⟩ (.slice Ao58 y247.length co58)) w.heap.size (fun k_ => some k_ ≠ (.slice (some ad242) t238.length co51 : Value).ownBlock ∧ some k_ ≠ (.slice Ao53 y243.length co53 : Value).ownBlock ∧ some k_ ≠ (.slice Ao58 y247.length co58 : Value).ownBlock) u221005 x221005_3) := ⟨Kd.R_mono (Kd.R_s HO_221005 BK220) (fun _ hk => ⟨hk.1.1, ⟨hk.1.2, hk.2⟩⟩)⟩
                        have n1_ : Aside0 (Kd.R Kd.string 9 (w57.setCell ⟨gb220, 4, none⟩ (.slice Ao58 y247.length co58)) w.heap.size (fun _ => True) (.slice (some ad221) t216.length co18) t216) := ⟨Kd.R_mono (Kd.R_s HO_4 BK220) (fun _ hk => trivial)⟩
                        have n2_ : Aside0 (Kd.R (Kd.int .i64) 3 (w57.setCell ⟨gb220, 4, none⟩ (.slice Ao58 y247.length co58)) w.heap.size (fun k_ => some k_ ≠ (u221005 : Value).ownBlock ∧ some k_ ≠ (.slice Ao53 y243.length co53 : Value).ownBlock ∧ some k_ ≠ (.slice Ao58 y247.length co58 : Value).ownBlock) (.slice (some ad242) t238.length co51) t238) := ⟨Kd.R_mono (Kd.R_s HO241 BK220) (fun _ hk => ⟨hk.1.1, ⟨hk.1.2, hk.2⟩⟩)⟩
                        have n3_ : Aside0 (Kd.R (Kd.int .i64) 3 (w57.setCell ⟨gb220, 4, none⟩ (.slice Ao58 y247.length co58)) w.heap.size (fun k_ => some k_ ≠ (u221005 : Value).ownBlock ∧ some k_ ≠ (.slice (some ad242) t238.length co51 : Value).ownBlock ∧ some k_ ≠ (.slice Ao58 y247.length co58 : Value).ownBlock) (.slice Ao53 y243.length co53) y243) := ⟨Kd.R_mono (Kd.R_s HO245 BK220) (fun _ hk => ⟨hk.1.1, ⟨hk.1.2, hk.2⟩⟩)⟩
                        have n4_ : Aside0 (Kd.R (Kd.int .i64) 3 (w57.setCell ⟨gb220, 4, none⟩ (.slice Ao58 y247.length co58)) w.heap.size (fun k_ => some k_ ≠ (u221005 : Value).ownBlock ∧ some k_ ≠ (.slice (some ad242) t238.length co51 : Value).ownBlock ∧ some k_ ≠ (.slice Ao53 y243.length co53 : Value).ownBlock) (.slice Ao58 y247.length co58) y247) := ⟨Kd.R_mono (Kd.R_s HO249 BK220) (fun _ hk => ⟨hk.1, ⟨hk.2.1, hk.2.2⟩⟩)⟩
                        have n5_ : Aside0 ((w57.setCell ⟨gb220, 4, none⟩ (.slice Ao58 y247.length co58)).heap[gb215]? = some (.cells #[.int .i64 x216000_3, .int .i64 x216001_3, .int .i64 x216002_3, .slice none 0 0, .slice none 0 0, .slice none 0 0] 26 (0, 0))) := ⟨kf_ BK215 NB215_220⟩
                        have n6_ : Aside0 ((w57.setCell ⟨gb220, 4, none⟩ (.slice Ao58 y247.length co58)).heap[gb220]? = some (.cells #[.int .i64 (rd t225 0), .int .i64 (rd t225 1), .int .i64 (rd t225 2), .slice Ao53 y243.length co53, .slice Ao58 y247.length co58, u221005] 26 (0, 0))) := ⟨kpq_ (kputs BK220 [(4, _)])⟩
                        have n7_ : Aside0 (Below w.heap.size w (w57.setCell ⟨gb220, 4, none⟩ (.slice Ao58 y247.length co58))) := ⟨hb_ HB⟩
                        (try clear HO_221005)
                        (try clear HO_4)
                        (try clear HO241)
                        (try clear HO245)
                        (try clear HO249)
                        (try clear BK215)
                        (try clear BK220)
                        (try clear HB)
                        generalize (w57.setCell ⟨gb220, 4, none⟩ (.slice Ao58 y247.length co58)) = w60 at n0_ n1_ n2_ n3_ n4_ n5_ n6_ n7_ ⊢
                        have HO_221005 := n0_
                        have HO_4 := n1_
                        have HO241 := n2_
                        have HO245 := n3_
                        have HO249 := n4_
                        have BK215 := n5_
                        have BK220 := n6_
                        have HB := n7_
                        clear n0_ n1_ n2_ n3_ n4_ n5_ n6_ n7_
                        have n0_ := Aside0.mk (Kd.R_drew HO_221005.out)
                        have n1_ := Aside0.mk (Kd.R_drew HO_4.out)
                        have n2_ := Aside0.mk (Kd.R_drew HO241.out)
                        have n3_ := Aside0.mk (Kd.R_drew HO245.out)
                        have n4_ := Aside0.mk (Kd.R_drew HO249.out)
                        have n5_ := Aside0.mk (blk_drew BK215.out)
                        have n6_ := Aside0.mk (blk_drew BK220.out)
                        have n7_ := Aside0.mk (below_drew1 HB.out)
                        clear HO_221005
                        clear HO_4
                        clear HO241
                        clear HO245
                        clear HO249
                        clear BK215
                        clear BK220
                        clear HB
                        have HO_221005 := n0_
                        have HO_4 := n1_
                        have HO241 := n2_
                        have HO245 := n3_
                        have HO249 := n4_
                        have BK215 := n5_
                        have BK220 := n6_
                        have HB := n7_
                        clear n0_ n1_ n2_ n3_ n4_ n5_ n6_ n7_
                        have p250 : 0 ≤ (2 : Int) := (by omega)
                        have q250 : 2 < (t238.length : Int) := of_decide_eq_true (by first | (with_reducible assumption) | assumption)
                        obtain ⟨ad250, e250, hx250_0⟩ := Kd.at_int (Kd.R_reads' HO241.out).2.2 2 p250 q250
                        obtain rfl : ad242 = ad250 := (by injection e250)
                        (try simp only [show (2 : Int).toNat = 2 from rfl, Nat.reduceMul, Nat.reduceEqDiff, Go.Addr.add, ↓reduceIte] at hx250_0)
                        have qi250 : (2 < t238.length) = True := eq_true (by omega)
                        (try rw [show ((2 : Int)).toNat = 2 from rfl] at hx250_0)
                        replace p250 := eq_true p250
                        replace q250 := eq_true q250
                        refine start_ (n := 9) (S := fun w' => w'.cell? ⟨gb220, 0, none⟩ = some (.int .i64 (rd t225 0)) ∧ w'.cell? ⟨gb220, 1, none⟩ = some (.int .i64 (rd t225 1)) ∧ w'.cell? ⟨gb220, 2, none⟩ = some (.int .i64 (rd t225 2)) ∧ w'.cell? ⟨gb220, 3, none⟩ = some (.slice Ao53 y243.length co53) ∧ w'.cell? ⟨gb220, 4, none⟩ = some (.slice Ao58 y247.length co58) ∧ w'.cell? ⟨gb220, 5, none⟩ = some (u221005) ∧ w'.cell? ⟨ad242.block, ad242.off + 2, none⟩ = some (.int .i64 (rd t238 2))) (ds := [6, 8]) #[false, false, false, false, false, false, false, false, false] (by kernel_rfl) rfl rfl ⟨(blk_cell BK220.out 0).trans rfl, (blk_cell BK220.out 1).trans rfl, (blk_cell BK220.out 2).trans rfl, (blk_cell BK220.out 3).trans rfl, (blk_cell BK220.out 4).trans rfl, (blk_cell BK220.out 5).trans rfl, hx250_0⟩ (fun hHeld => ?_); refine with_tabW impl_ParseModel.tab18 impl_ParseModel.bits18 (fun HT_ HW_ => ?_)
                        generalize w60.drew = w61 at HO_221005 HO_4 HO241 HO245 HO249 BK215 BK220 HB hx250_0 hHeld ⊢
                        refine pure_ (i := 0) (N := some 94) (v := ?_) (a' := ?_) #[true, false, false, false, false, false, false, false, false] rfl rfl (any_of HT_.out (by kernel_rfl)) (fun _ _ _ h => h) (Or.inl ⟨by rfl, ?_⟩) ?_ ?_
                        rotate_left
                        ·intro w'
                         go_simp
                         with_reducible rfl
                        rotate_left
                        ·simp only [Act.put, List.setIfInBounds_toArray, List.set_cons_zero, List.set_cons_succ, i64_w, i32_w]
                         rfl
                        refine pure_ (i := 2) (N := some 96) (v := ?_) (a' := ?_) #[true, false, true, false, false, false, false, false, false] rfl rfl (any_of HT_.out (by kernel_rfl)) (fun _ _ _ h => h) (Or.inl ⟨by rfl, ?_⟩) ?_ ?_
                        rotate_left
                        ·intro w'
                         go_simp
                         with_reducible rfl
                        rotate_left
                        ·simp only [Act.put, List.setIfInBounds_toArray, List.set_cons_zero, List.set_cons_succ, i64_w, i32_w]
                         rfl
                        refine pure_ (i := 3) (N := some 97) (v := ?_) (a' := ?_) #[true, false, true, true, false, false, false, false, false] rfl rfl (any_of HT_.out (by kernel_rfl)) (fun _ _ _ h => h) (Or.inl ⟨by rfl, ?_⟩) ?_ ?_
                        rotate_left
                        ·intro w'
                         go_simp
                         with_reducible rfl
                        rotate_left
                        ·simp only [Act.put, List.setIfInBounds_toArray, List.set_cons_zero, List.set_cons_succ, i64_w, i32_w]
                         rfl
                        refine take_ (i := 1) (N := some 95) (v := ?_) (a' := ?_) #[true, true, true, true, false, false, false, false, false] rfl rfl (take_ofW HT_.out HW_.out (by kernel_rfl)) (fun _ _ _ h => h) (Or.inl ⟨by rfl, ?_⟩) hHeld ?_ ?_
                        rotate_left
                        ·rintro w' ⟨s0, s1, s2, s3, s4, s5, s6⟩
                         go_simp
                         with_reducible rfl
                        rotate_left
                        ·simp only [Act.put, List.setIfInBounds_toArray, List.set_cons_zero, List.set_cons_succ, i64_w, i32_w]
                         rfl
                        refine take_ (i := 4) (N := some 98) (v := ?_) (a' := ?_) #[true, true, true, true, true, false, false, false, false] rfl rfl (take_ofW HT_.out HW_.out (by kernel_rfl)) (fun _ _ _ h => h) (Or.inl ⟨by rfl, ?_⟩) hHeld ?_ ?_
                        rotate_left
                        ·rintro w' ⟨s0, s1, s2, s3, s4, s5, s6⟩
                         go_simp
                         with_reducible rfl
                        rotate_left
                        ·simp only [Act.put, List.setIfInBounds_toArray, List.set_cons_zero, List.set_cons_succ, i64_w, i32_w]
                         rfl
                        refine one_ (i := 5) (N := some 99) #[true, true, true, true, true, true, false, false, false] rfl rfl (one_of HT_.out (by kernel_rfl)) (by decide) (fun K hK => ?_)
                        refine value_ (w1 := ?_) (v := ?_) (by rfl) rfl ?_ ?_
                        rotate_left 2
                        ·go_simp
                         constructor
                         ·rfl
                         ·rfl
                        refine hK.out _ _ ⟨(blk_cell (blk_alloc BK220.out _) 0).trans rfl, (blk_cell (blk_alloc BK220.out _) 1).trans rfl, (blk_cell (blk_alloc BK220.out _) 2).trans rfl, (blk_cell (blk_alloc BK220.out _) 3).trans rfl, (blk_cell (blk_alloc BK220.out _) 4).trans rfl, (blk_cell (blk_alloc BK220.out _) 5).trans rfl, (World.cell?_alloc_lt _ _ _ (World.block_lt_of_cell? _ _ (hHeld.2.2.2.2.2.2))).trans (hHeld.2.2.2.2.2.2)⟩ (fun hHeld => ?_)
                        clear hK K
                        refine norm_ (a' := ?_) ?_ ?_
                        rotate_left
                        ·show Act.put _ (some 99) _ = _
                         simp only [Act.put, List.setIfInBounds_toArray, List.set_cons_zero, List.set_cons_succ, i64_w, i32_w]
                         rfl
                        refine last_ (i := 6) (N := some 100) #[true, true, true, true, true, true, true, false, false] rfl rfl (one_of HT_.out (by kernel_rfl)) (by decide) (fun K hK => ?_)
                        refine Kd.R_append_step (Kd.int .i64) (w0 := w) w.heap.size (by rfl) (.tmp 95) (.tmp 99) 24 3 (.int .i64 0) 8 rfl Tryd.underlying24 info3 rfl (by decide) (by omega) u221005 x221005_3 (rd t238 2) [.int .i64 (rd t238 2)] (fun k_ => some k_ ≠ (.slice (some ad242) t238.length co51 : Value).ownBlock ∧ some k_ ≠ (.slice Ao53 y243.length co53 : Value).ownBlock ∧ some k_ ≠ (.slice Ao58 y247.length co58 : Value).ownBlock) (fun _ => False) rfl rfl ?aP (fun _ hk => hk.elim) ?aF ?aO ?aB ?aS ?aL ?_
                        (case aP => exact rfl)
                        (case aB => exact (hb_ HB))
                        (case aF => exact (fun k_ hk => ⟨Kd.fresh' (Kd.R_lt (Kd.R_p HO241)) k_ hk, Kd.fresh' (Kd.R_lt (Kd.R_p HO245)) k_ hk, Kd.fresh' (Kd.R_lt (Kd.R_p HO249)) k_ hk⟩))
                        (case aO => exact (Kd.R_p HO_221005))
                        (case aS => exact (below_size (hb_ HB)))
                        (case aL => have := LMc48.out; omega)
                        intro v252 w62 ho hb hg hat
                        rw [← Ny251.out] at ho
                        have n0_ := Aside0.mk (blk_grown (kp_ BK215) hg (Kd.R_ne HO_221005.out BK215.out (by decide)))
                        have n1_ := Aside0.mk (blk_grown (kp_ BK220) hg (Kd.R_ne HO_221005.out BK220.out (by decide)))
                        have n2_ := Aside0.mk (Kd.R_over' (Kd.R_p HO_4) (Kd.R_typed (Kd.R_p HO_221005)) (by decide) hg)
                        have n3_ := Aside0.mk (Kd.R_after (ok := (fun k_ => some k_ ≠ (.slice Ao53 y243.length co53 : Value).ownBlock ∧ some k_ ≠ (.slice Ao58 y247.length co58 : Value).ownBlock)) (Kd.R_pp (Kd.R_mono HO241.out (fun _ hk => ⟨⟨hk.2.1, hk.2.2⟩, hk.1⟩))) hg hat)
                        have n4_ := Aside0.mk (Kd.R_after (ok := (fun k_ => some k_ ≠ (.slice (some ad242) t238.length co51 : Value).ownBlock ∧ some k_ ≠ (.slice Ao58 y247.length co58 : Value).ownBlock)) (Kd.R_pp (Kd.R_mono HO245.out (fun _ hk => ⟨⟨hk.2.1, hk.2.2⟩, hk.1⟩))) hg hat)
                        have n5_ := Aside0.mk (Kd.R_after (ok := (fun k_ => some k_ ≠ (.slice (some ad242) t238.length co51 : Value).ownBlock ∧ some k_ ≠ (.slice Ao53 y243.length co53 : Value).ownBlock)) (Kd.R_pp (Kd.R_mono HO249.out (fun _ hk => ⟨⟨hk.2.1, hk.2.2⟩, hk.1⟩))) hg hat)
                        have n6_ := Aside0.mk (hb)
                        have n7_ := Aside0.mk (ho)
                        clear BK215
                        clear BK220
                        clear HO_4
                        clear HO241
                        clear HO245
                        clear HO249
                        clear HB
                        clear HO_221005
                        have BK215 := n0_
                        have BK220 := n1_
                        have HO_4 := n2_
                        have HO241 := n3_
                        have HO245 := n4_
                        have HO249 := n5_
                        have HB := n6_
                        have HO253 := n7_
                        clear n0_ n1_ n2_ n3_ n4_ n5_ n6_ n7_
                        clear ho hb hg hat
                        obtain ⟨Ao63, co63, eo63⟩ := Kd.R_slice HO253.out
                        (first | subst eo63 | (injection eo63 with f1_ f2_ f3_; have f4_ := f1_.symm; have f5_ := f3_.symm; clear f1_ f2_ f3_; subst f4_; subst f5_))
                        refine hK.out _ _ ?_
                        clear hK K
                        refine norm_ (a' := ?_) ?_ ?_
                        rotate_left
                        ·show Act.put _ (some 100) _ = _
                         simp only [Act.put, List.setIfInBounds_toArray, List.set_cons_zero, List.set_cons_succ, i64_w, i32_w]
                         rfl
                        refine pure_ (i := 7) (N := some 101) (v := ?_) (a' := ?_) #[true, true, true, true, true, true, true, true, false] rfl rfl (any_of HT_.out (by kernel_rfl)) (fun _ _ _ h => h) (Or.inl ⟨by rfl, ?_⟩) ?_ ?_
                        rotate_left
                        ·intro w'
                         go_simp
                         with_reducible rfl
                        rotate_left
                        ·simp only [Act.put, List.setIfInBounds_toArray, List.set_cons_zero, List.set_cons_succ, i64_w, i32_w]
                         rfl
                        refine last_ (i := 8) (N := none) #[true, true, true, true, true, true, true, true, true] rfl rfl (one_of HT_.out (by kernel_rfl)) (by decide) (fun K hK => ?_)
                        have hs64 : w62.cell? ⟨gb220, 5, none⟩ = some (u221005) := (blk_cell BK220.out 5).trans rfl
                        have hfs64 := blk_frozen BK220.out 5
                        have hns64_0 := NB215_220.out
                        have hms64_0 := NB220_215.out
                        refine skip_ (w1 := ?_) (by rfl) rfl ?_ ?_
                        rotate_left
                        ·go_simp
                         rfl
                        refine hK.out _ _ ?_
                        clear hK K
                        refine done_ (done_of HT_.out (by kernel_rfl)) ?_
                        try go_wp2
                        go_roundg k3
                        case measure => have := HJ2.out; have := HJ13.out; have := HK3.out; omega
                        case rel => exact ⟨(wrap64 (x66_3 + 1)), (x216000_3), (x216001_3), (x216002_3), (y243), (y247), (y251), (.slice Ao53 y243.length co53), (.slice Ao58 y247.length co58), (.slice Ao63 y251.length co63), (by first | rfl | (simp; done) | (simp [*]; done)), H', ⟨by have := HJ2.out; have := HJ13.out; have := HK3.out; omega⟩, ⟨Kd.R_mono (Kd.R_s HO245 BK220) (fun _ hk => ⟨hk.1.2, hk.2⟩)⟩, ⟨Kd.R_mono (Kd.R_s HO249 BK220) (fun _ hk => ⟨hk.1.2, hk.2⟩)⟩, ⟨Kd.R_mono (Kd.R_s HO253 BK220) (fun _ hk => ⟨hk.2.1, hk.2.2⟩)⟩, ⟨kf_ BK215 NB215_220⟩, ⟨kpq_ (kputs BK220 [(5, _)])⟩, ⟨Kd.R_mono (Kd.R_s HO_4 BK220) (fun _ _ => trivial)⟩, ⟨(show Kd.C Kd.string _ (some ad237) y233.length y233 from by rw [Ny233.out, KA37.out]; exact Kd.C_drop (m := 1) (c := co18) ((Kd.R_reads' (Kd.R_s HO_4 BK220)).2.2) KL37.out ((Kd.R_reads' (Kd.R_s HO_4 BK220)).2.1))⟩, ⟨hb_ HB⟩⟩
                       ·rw [if_neg c48] at H
                        exact absurd H (by simp)
                      ·rw [if_neg c47] at H
                       exact absurd H (by simp)
                     ·rw [if_neg c46] at H
                      exact absurd H (by simp)
                    ·rw [if_neg c45] at H
                     exact absurd H (by simp)
                   ·rw [if_neg c44] at H
                    exact absurd H (by simp)
                  ·rw [if_neg c43] at H
                   exact absurd H (by simp)
                 ·replace c42 := Bool.eq_false_iff.mpr c42
                  subst c42
                  have H1 : (some (0, 0, 0, ([] : List Int), ([] : List Int), ([] : List Int), false)) = some (r1, r2, r3, r4, r5, r6, r7) := by rw [if_neg (show ¬ (false = true) by decide)] at H; exact H
                  clear H
                  have H := H1
                  clear H1
                  simp only [Option.some.injEq, Prod.mk.injEq] at H
                  obtain ⟨rfl, rfl, rfl, rfl, rfl, rfl, rfl⟩ := H
                  have p237 : 0 ≤ (x66_3 : Int) := of_decide_eq_true (by first | (with_reducible assumption) | assumption)
                  have q237 : x66_3 < (y233.length : Int) := of_decide_eq_true (by first | (with_reducible assumption) | assumption)
                  obtain ⟨ad237, e237, hx237_0⟩ := Kd.at_string HR236.out x66_3 p237 q237
                  cases e237
                  try replace hx237_0 := (HB.out.cell (World.block_lt_of_cell? w _ hx237_0)).trans hx237_0
                  replace p237 := eq_true p237
                  replace q237 := eq_true q237
                  (try clear BK220); (try clear GW220); (try clear GE220); (try clear NB220_215); (try clear NB215_220); (try clear HR236)
                  go_wp2_with (first | ((with_reducible refine gate_callee (f := 15) rfl ?_); refine gl_ (some 72) Tryd.func15 #[.string (rdOf ByteArray.empty y233 x66_3), .int .i64 3] rfl rfl rfl ?_; (with_reducible refine (impl_decimals.calls k3 (rdOf ByteArray.empty y233 x66_3) 3 t238 false _ A41.out (by exact LaidW.step HLw (hb_ HB))).mono ?_); rintro e w65 ⟨v240, rfl, ho0, hb⟩; refine ⟨_, rfl, ?_⟩; have HO241 := Kd.R_lo (Kd.R_nw (Kd.R_nw (Kd.R_nw ho0 HO_221003) HO_221004) HO_221005) HB; replace HO_221003 := Kd.R_e HO_221003 ho0 hb; replace HO_221004 := Kd.R_e HO_221004 ho0 hb; replace HO_221005 := Kd.R_e HO_221005 ho0 hb; replace HO_4 := Kd.R_b HO_4 hb; replace BK215 := kb_ BK215 hb; replace HB := hbs_ HB hb; (try clear hb); (try clear hb2); (try clear hk); (try clear hi); (try clear ho0); obtain ⟨hcz66_0, hcz66_1, hcz66_2, hcz66_3, hcz66_4, hcz66_5, hfz66_0, hfz66_1, hfz66_2, hfz66_3, hfz66_4, hfz66_5⟩ := bx6 BK215))
                  refine bodyPost_ret (results_ct rfl _ _ gb215 26 #[.int .i64 0, .int .i64 0, .int .i64 0, .slice none 0 0, .slice none 0 0, .slice none 0 0] (0, 0) _ rfl (kpq_ (kputs BK215 [(0, _), (1, _), (2, _), (3, _), (4, _), (5, _)])) Tryd.underlying26 rfl (by kernel_rfl)) rfl ?_
                  exact ⟨_, _, _, by first | rfl | (simp [errW_none, errW_some] <;> rfl) | (simp [*, errW_none, errW_some] <;> rfl), by first | exact Kd.R_nil _ _ _ _ _ | exact Kd.N_nil _ _ _ _ _ | exact Kd.V_nil _ _ _ _ _ | exact Kd.Q_nil _ _ _ _ _ | exact Kd.S_nil _ _ _ _ _, by first | exact Kd.R_nil _ _ _ _ _ | exact Kd.N_nil _ _ _ _ _ | exact Kd.V_nil _ _ _ _ _ | exact Kd.Q_nil _ _ _ _ _ | exact Kd.S_nil _ _ _ _ _, by first | exact Kd.R_nil _ _ _ _ _ | exact Kd.N_nil _ _ _ _ _ | exact Kd.V_nil _ _ _ _ _ | exact Kd.Q_nil _ _ _ _ _ | exact Kd.S_nil _ _ _ _ _, hb_ HB⟩
                ·rw [if_neg c40] at H
                 exact absurd H (by simp)
               ·rw [if_neg c39] at H
                exact absurd H (by simp)
              ·rw [if_neg c38] at H
               have c38b0 : decide (x66_3 < (y233.length : Int)) = false := decide_eq_false c38
               clear c38
               replace H := Option.bind_eq_some_iff.mp H
               obtain ⟨t254, A670, H⟩ := H
               replace H : (if t254 = true then (some ((rd t225 0), (rd t225 1), (rd t225 2), x221003_3, x221004_3, x221005_3, true)) else (some (0, 0, 0, ([] : List Int), ([] : List Int), ([] : List Int), false))) = some (r1, r2, r3, r4, r5, r6, r7) := H
               have A67 := Aside0.mk A670
               clear A670
               by_cases c68 : t254 = true
               ·subst c68
                have H1 : (some ((rd t225 0), (rd t225 1), (rd t225 2), x221003_3, x221004_3, x221005_3, true)) = some (r1, r2, r3, r4, r5, r6, r7) := by rw [if_pos rfl] at H; exact H
                clear H
                have H := H1
                clear H1
                simp only [Option.some.injEq, Prod.mk.injEq] at H
                obtain ⟨rfl, rfl, rfl, rfl, rfl, rfl, rfl⟩ := H
                have hnb69 := NB220_215.out
                have hnc69 := NB215_220.out
                have hcz70_0 : wr.cell? ⟨gb220, 0, none⟩ = some (.int .i64 (rd t225 0)) := (blk_cell BK220.out 0).trans rfl
                have hcz70_1 : wr.cell? ⟨gb220, 1, none⟩ = some (.int .i64 (rd t225 1)) := (blk_cell BK220.out 1).trans rfl
                have hcz70_2 : wr.cell? ⟨gb220, 2, none⟩ = some (.int .i64 (rd t225 2)) := (blk_cell BK220.out 2).trans rfl
                have hcz70_3 : wr.cell? ⟨gb220, 3, none⟩ = some (u221003) := (blk_cell BK220.out 3).trans rfl
                have hcz70_4 : wr.cell? ⟨gb220, 4, none⟩ = some (u221004) := (blk_cell BK220.out 4).trans rfl
                have hcz70_5 : wr.cell? ⟨gb220, 5, none⟩ = some (u221005) := (blk_cell BK220.out 5).trans rfl
                have hfz70_0 := blk_frozen BK220.out 0
                have hfz70_1 := blk_frozen BK220.out 1
                have hfz70_2 := blk_frozen BK220.out 2
                have hfz70_3 := blk_frozen BK220.out 3
                have hfz70_4 := blk_frozen BK220.out 4
                have hfz70_5 := blk_frozen BK220.out 5
                (try clear HR236)
                obtain ⟨Ao71, co71, eo71⟩ := Kd.R_slice HO_221003.out
                subst eo71
                obtain ⟨Ao72, co72, eo72⟩ := Kd.R_slice HO_221004.out
                subst eo72
                obtain ⟨Ao73, co73, eo73⟩ := Kd.R_slice HO_221005.out
                subst eo73
                go_wp2_with (first | ((with_reducible refine gate_callee (f := 18) rfl ?_); refine gl_ (some 104) Tryd.func18 #[.agg #[.int .i64 (rd t225 0), .int .i64 (rd t225 1), .int .i64 (rd t225 2), .slice Ao71 x221003_3.length co71, .slice Ao72 x221004_3.length co72, .slice Ao73 x221005_3.length co73]] rfl rfl rfl ?_; (with_reducible refine (impl_IsModel.calls k3 (rd t225 0) (rd t225 1) (rd t225 2) _ _ x221003_3 _ _ x221004_3 _ _ x221005_3 true _ ?side1 ?side2 ?side3 ?side4 ?side5 ?side6 A67.out).mono ?_); (case side1 => exact Kd.C_o HO_221003); (case side2 => exact (Kd.R_reads' HO_221003.out).2.1); (case side3 => exact Kd.C_o HO_221004); (case side4 => exact (Kd.R_reads' HO_221004.out).2.1); (case side5 => exact Kd.C_o HO_221005); (case side6 => exact (Kd.R_reads' HO_221005.out).2.1); rintro e w74 ⟨rfl, hb⟩; refine ⟨_, rfl, ?_⟩; replace HO_221003 := Kd.R_b HO_221003 hb; replace HO_221004 := Kd.R_b HO_221004 hb; replace HO_221005 := Kd.R_b HO_221005 hb; replace HO_4 := Kd.R_b HO_4 hb; replace BK215 := kb_ BK215 hb; replace BK220 := kb_ BK220 hb; replace HB := hbs_ HB hb; (try clear hb); (try clear hb2); (try clear hk); (try clear hi); obtain ⟨hcz75_0, hcz75_1, hcz75_2, hcz75_3, hcz75_4, hcz75_5, hfz75_0, hfz75_1, hfz75_2, hfz75_3, hfz75_4, hfz75_5⟩ := bx6 BK220; obtain ⟨hcz76_0, hcz76_1, hcz76_2, hcz76_3, hcz76_4, hcz76_5, hfz76_0, hfz76_1, hfz76_2, hfz76_3, hfz76_4, hfz76_5⟩ := bx6 BK215))
                refine bodyPost_ret (results_ct rfl _ _ gb215 26 #[.int .i64 (rd t225 0), .int .i64 (rd t225 1), .int .i64 (rd t225 2), .slice Ao71 x221003_3.length co71, .slice Ao72 x221004_3.length co72, .slice Ao73 x221005_3.length co73] (0, 0) _ rfl (kpq_ (kputs BK215 [(0, _), (1, _), (2, _), (3, _), (4, _), (5, _)])) Tryd.underlying26 rfl (by kernel_rfl)) rfl ?_
                exact ⟨_, _, _, by first | rfl | (simp [errW_none, errW_some] <;> rfl) | (simp [*, errW_none, errW_some] <;> rfl), Kd.R_mono (Kd.R_s HO_221003 BK215) (fun _ hk => ⟨hk.1, hk.2⟩), Kd.R_mono (Kd.R_s HO_221004 BK215) (fun _ hk => ⟨hk.1, hk.2⟩), Kd.R_mono (Kd.R_s HO_221005 BK215) (fun _ hk => ⟨hk.1, hk.2⟩), hb_ HB⟩
               ·replace c68 := Bool.eq_false_iff.mpr c68
                subst c68
                have H1 : (some (0, 0, 0, ([] : List Int), ([] : List Int), ([] : List Int), false)) = some (r1, r2, r3, r4, r5, r6, r7) := by rw [if_neg (show ¬ (false = true) by decide)] at H; exact H
                clear H
                have H := H1
                clear H1
                simp only [Option.some.injEq, Prod.mk.injEq] at H
                obtain ⟨rfl, rfl, rfl, rfl, rfl, rfl, rfl⟩ := H
                have hnb77 := NB220_215.out
                have hnc77 := NB215_220.out
                have hcz78_0 : wr.cell? ⟨gb220, 0, none⟩ = some (.int .i64 (rd t225 0)) := (blk_cell BK220.out 0).trans rfl
                have hcz78_1 : wr.cell? ⟨gb220, 1, none⟩ = some (.int .i64 (rd t225 1)) := (blk_cell BK220.out 1).trans rfl
                have hcz78_2 : wr.cell? ⟨gb220, 2, none⟩ = some (.int .i64 (rd t225 2)) := (blk_cell BK220.out 2).trans rfl
                have hcz78_3 : wr.cell? ⟨gb220, 3, none⟩ = some (u221003) := (blk_cell BK220.out 3).trans rfl
                have hcz78_4 : wr.cell? ⟨gb220, 4, none⟩ = some (u221004) := (blk_cell BK220.out 4).trans rfl
                have hcz78_5 : wr.cell? ⟨gb220, 5, none⟩ = some (u221005) := (blk_cell BK220.out 5).trans rfl
                have hfz78_0 := blk_frozen BK220.out 0
                have hfz78_1 := blk_frozen BK220.out 1
                have hfz78_2 := blk_frozen BK220.out 2
                have hfz78_3 := blk_frozen BK220.out 3
                have hfz78_4 := blk_frozen BK220.out 4
                have hfz78_5 := blk_frozen BK220.out 5
                (try clear HR236)
                obtain ⟨Ao79, co79, eo79⟩ := Kd.R_slice HO_221003.out
                subst eo79
                obtain ⟨Ao80, co80, eo80⟩ := Kd.R_slice HO_221004.out
                subst eo80
                obtain ⟨Ao81, co81, eo81⟩ := Kd.R_slice HO_221005.out
                subst eo81
                go_wp2_with (first | ((with_reducible refine gate_callee (f := 18) rfl ?_); refine gl_ (some 104) Tryd.func18 #[.agg #[.int .i64 (rd t225 0), .int .i64 (rd t225 1), .int .i64 (rd t225 2), .slice Ao79 x221003_3.length co79, .slice Ao80 x221004_3.length co80, .slice Ao81 x221005_3.length co81]] rfl rfl rfl ?_; (with_reducible refine (impl_IsModel.calls k3 (rd t225 0) (rd t225 1) (rd t225 2) _ _ x221003_3 _ _ x221004_3 _ _ x221005_3 false _ ?side1 ?side2 ?side3 ?side4 ?side5 ?side6 A67.out).mono ?_); (case side1 => exact Kd.C_o HO_221003); (case side2 => exact (Kd.R_reads' HO_221003.out).2.1); (case side3 => exact Kd.C_o HO_221004); (case side4 => exact (Kd.R_reads' HO_221004.out).2.1); (case side5 => exact Kd.C_o HO_221005); (case side6 => exact (Kd.R_reads' HO_221005.out).2.1); rintro e w82 ⟨rfl, hb⟩; refine ⟨_, rfl, ?_⟩; replace HO_221003 := Kd.R_b HO_221003 hb; replace HO_221004 := Kd.R_b HO_221004 hb; replace HO_221005 := Kd.R_b HO_221005 hb; replace HO_4 := Kd.R_b HO_4 hb; replace BK215 := kb_ BK215 hb; replace BK220 := kb_ BK220 hb; replace HB := hbs_ HB hb; (try clear hb); (try clear hb2); (try clear hk); (try clear hi); obtain ⟨hcz83_0, hcz83_1, hcz83_2, hcz83_3, hcz83_4, hcz83_5, hfz83_0, hfz83_1, hfz83_2, hfz83_3, hfz83_4, hfz83_5⟩ := bx6 BK215))
                refine bodyPost_ret (results_ct rfl _ _ gb215 26 #[.int .i64 0, .int .i64 0, .int .i64 0, .slice none 0 0, .slice none 0 0, .slice none 0 0] (0, 0) _ rfl (kpq_ (kputs BK215 [(0, _), (1, _), (2, _), (3, _), (4, _), (5, _)])) Tryd.underlying26 rfl (by kernel_rfl)) rfl ?_
                exact ⟨_, _, _, by first | rfl | (simp [errW_none, errW_some] <;> rfl) | (simp [*, errW_none, errW_some] <;> rfl), by first | exact Kd.R_nil _ _ _ _ _ | exact Kd.N_nil _ _ _ _ _ | exact Kd.V_nil _ _ _ _ _ | exact Kd.Q_nil _ _ _ _ _ | exact Kd.S_nil _ _ _ _ _, by first | exact Kd.R_nil _ _ _ _ _ | exact Kd.N_nil _ _ _ _ _ | exact Kd.V_nil _ _ _ _ _ | exact Kd.Q_nil _ _ _ _ _ | exact Kd.S_nil _ _ _ _ _, by first | exact Kd.R_nil _ _ _ _ _ | exact Kd.N_nil _ _ _ _ _ | exact Kd.V_nil _ _ _ _ _ | exact Kd.Q_nil _ _ _ _ _ | exact Kd.S_nil _ _ _ _ _, hb_ HB⟩
           ·rw [if_neg c30] at H
            exact absurd H (by simp)
          ·rw [if_neg c29] at H
           exact absurd H (by simp)
         ·rw [if_neg c28] at H
          exact absurd H (by simp)
        ·rw [if_neg c27] at H
         exact absurd H (by simp)
    ·rw [if_neg c10] at H
     exact absurd H (by simp)

end Go.Proofs.YtjchafcodnilmaaDoor.PFnExactParseModel
