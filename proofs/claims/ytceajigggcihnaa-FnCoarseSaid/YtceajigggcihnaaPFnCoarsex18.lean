-- Laid for this claim by wip/tools/print2.sh, a changed copy of the kit's print (wip/tools/patch_print.py): not by print.sh. Changed by wip/fix/fncoarse.py.
import Derived.Test.YtceajigggcihnaaPFnCoarsex17
import Derived.Test.YtceajigggcihnaaVFnCoarse
namespace Go.Proofs.Ytceajigggcihnaa.PFnCoarse
open Go.RowKit Go.Proofs.YtceajigggcihnaaW.PrintWords Go.Proofs.YtceajigggcihnaaW.PrintLast Go.Proofs.YtceajigggcihnaaW.PrintMore
attribute [local go_sem] max2_int min2_int max_two min_two max_three min_three max_four min_four
set_option linter.unusedVariables false
set_option linter.unusedSimpArgs false

theorem setCell_drewN_ (w : World) (n : Nat) (a : Addr) (v : Value) : (w.drewN n).setCell a v = (w.setCell a v).drewN n := rfl
/-! ### spec_l1Least: function 95 -/
def spec_l1Least.f (a0 : Int) (a1 : Int) : Option (Int) := if a0 < a1 then (some a0) else (some a1)
set_option maxHeartbeats 8000000 in
set_option maxRecDepth 100000 in
theorem spec_l1Least.calls (a0 : Int) (a1 : Int) (r : Int) (w : World) (h : spec_l1Least.f a0 a1 = some r) :
  Calls Try.prog 95 #[.int .i64 a0, .int .i64 a1] w fun e w' => e = .returned (.int .i64 r) ∧ Drawn0 w w' := by
 have H := h
 unfold spec_l1Least.f at H
 clear h
 by_cases c3 : a0 < a1
 ·rw [if_pos c3] at H
  have c3b0 := decide_eq_true c3
  clear c3
  obtain rfl := Option.some.inj H
  go_enter Try.func95, Try.ntmps95
  go_wp2
  go_ret
  exact ⟨by first | rfl | (simp; done) | (simp [*]; done), by repeat (first | exact Drawn0.refl _ | apply Drawn0.step)⟩
 rw [if_neg c3] at H
 have c3b0 := decide_eq_false c3
 clear c3
 obtain rfl := Option.some.inj H
 go_enter Try.func95, Try.ntmps95
 go_wp2
 go_ret
 exact ⟨by first | rfl | (simp; done) | (simp [*]; done), by repeat (first | exact Drawn0.refl _ | apply Drawn0.step)⟩

/-! ### spec_DrawCoarseModel: function 50 -/
def spec_DrawCoarseModel.l0 : Nat → Int → Int → Int → Int → Int → List Int → List Int → List Int → Option (Int × Int × Int × List Int × List Int × List Int)
 | 0, _, _, _, _, _, _, _, _ => none
 | k + 1, x15, x16, x603000, x603001, x603002, x603003, x603004, x603005 => if x16 < x15 then (if 0 ≤ x16 then (if x16 < (x603003.length : Int) then ((spec_l1Least.f (rd x603003 x16) 2500).bind fun t607 => (spec_DrawCoarseModel.l0 k x15 (wrap64 (x16 + 1)) x603000 x603001 x603002 (x603003.set (x16 : Int).toNat t607) x603004 x603005)) else (none)) else (none)) else (some (x603000, x603001, x603002, x603003, x603004, x603005))
def spec_DrawCoarseModel.f (k : Nat) (l0 : List Int) : Option (Int × Int × Int × List Int × List Int × List Int) := (spec_l1Cur_anyModel.f k l0 0 0).bind fun bt588 => ((spec_l1Cur_one.f l0 bt588.2.2.2.2.2.2.1 bt588.2.2.2.2.2.2.2 2).bind fun bt603 => (if bt603.1 = true then (spec_DrawCoarseModel.l0 k (bt588.2.2.2.1.length : Int) 0 bt588.1 bt588.2.1 bt588.2.2.1 bt588.2.2.2.1 bt588.2.2.2.2.1 bt588.2.2.2.2.2.1) else (some (bt588.1, bt588.2.1, bt588.2.2.1, bt588.2.2.2.1, bt588.2.2.2.2.1, bt588.2.2.2.2.2.1))))
def spec_DrawCoarseModel.T7 : Bool × List (List Nat × List Nat) := (true, [([], []), ([0], [0]), ([], []), ([], []), ([3], [3]), ([], []), ([4, 5], [4, 5]), ([6], [6]), ([7], [7]), ([1, 2, 0, 1, 2, 3, 4, 5, 6, 7, 8], [1, 2]), ([9, 8, 8, 0, 1, 2, 3, 4, 5, 6, 7, 8], [8, 9])])
def spec_DrawCoarseModel.B7 : List Nat := [0, 1, 0, 0, 8, 0, 56, 120, 248, 511, 1023]
theorem spec_DrawCoarseModel.tab7 : rtab .any (opsOf Try.f50 7) = spec_DrawCoarseModel.T7 := by kernel_rfl
theorem spec_DrawCoarseModel.bits7 : waitsOk spec_DrawCoarseModel.T7.2 spec_DrawCoarseModel.B7 = true := by kernel_rfl
set_option maxHeartbeats 8000000 in
set_option maxRecDepth 100000 in
theorem spec_DrawCoarseModel.calls (k : Nat) (A0 : Option Addr) (c0 : Nat) (l0 : List Int) (r1 : Int) (r2 : Int) (r3 : Int) (r4 : List Int) (r5 : List Int) (r6 : List Int) (w : World) (hr0 : Kd.C (Kd.int .u8) w A0 l0.length l0) (hc0 : l0.length ≤ c0) (h : spec_DrawCoarseModel.f k l0 = some (r1, r2, r3, r4, r5, r6)) :
  Calls Try.prog 50 #[.slice A0 l0.length c0] w fun e w' => ∃ v3_ v4_ v5_ : Value, e = .returned (.agg #[.int .i64 r1, .int .i64 r2, .int .i64 r3, v3_, v4_, v5_]) ∧ Kd.R (Kd.int .i64) 3 w' w.heap.size (fun k_ => some k_ ≠ (v4_ : Value).ownBlock ∧ some k_ ≠ (v5_ : Value).ownBlock) v3_ r4 ∧ Kd.R (Kd.int .i64) 3 w' w.heap.size (fun k_ => some k_ ≠ (v3_ : Value).ownBlock ∧ some k_ ≠ (v5_ : Value).ownBlock) v4_ r5 ∧ Kd.R (Kd.int .i64) 3 w' w.heap.size (fun k_ => some k_ ≠ (v3_ : Value).ownBlock ∧ some k_ ≠ (v4_ : Value).ownBlock) v5_ r6 ∧ Below w.heap.size w w' := by
 have hu34 := Try.underlying34
 have hu106 := Try.underlying106
 have HR0 := Aside0.mk hr0
 have HC0 := Aside0.mk hc0
 clear hr0 hc0
 have HB := Aside0.mk (Below.refl w.heap.size w)
 have H := h
 unfold spec_DrawCoarseModel.f at H
 clear h
 replace H := Option.bind_eq_some_iff.mp H
 obtain ⟨⟨t588, t589, t590, t591, t594, t597, t600, t601⟩, A20, H⟩ := H
 try dsimp only at H
 have A2 := Aside0.mk A20
 clear A20
 replace H := Option.bind_eq_some_iff.mp H
 obtain ⟨⟨t603, t604, t605⟩, A30, H⟩ := H
 try dsimp only at H
 have A3 := Aside0.mk A30
 clear A30
 by_cases c4 : t603 = true
 ·subst c4
  rw [if_pos rfl] at H
  have H' := Aside0.mk H
  clear H
  go_enter Try.func50, Try.ntmps50
  go_wp2_with (first | ((with_reducible refine gate_dst (N := 2) rfl ?_); refine bv_ 2 (cs := #[.int .i64 0, .int .i64 0, .int .i64 0, .slice none 0 0, .slice none 0 0, .slice none 0 0]) (t := 34) ?_; intro gb586 hg w5 hbox hb; have BK586 := Aside0.mk (hbox); have GW586 := gs_ hg HB; have GE586 := gs_ hg HB; replace HB := hbs_ HB hb; clear hb hbox hg) | ((with_reducible refine gate_dst (N := 8) rfl ?_); refine bv_ 8 (cs := #[.slice A0 l0.length c0, .int .i64 0, .int .u64 0]) (t := 106) ?_; intro gb587 hg w6 hbox hb; have HI587 := Aside0.mk ((show IsS106 w w6 gb587 l0 0 0 from ⟨A0, c0, hbox, (by rw [hg]; exact (below_size (hb_ HB))), HR0.out⟩)); have GW587 := gs_ hg HB; have GE587 := gs_ hg HB; have NB586_587 := nl_ hg BK586; have NB587_586 := ng_ hg BK586; replace BK586 := kb_ BK586 hb; replace HB := hbs_ HB hb; clear hb hbox hg) | ((with_reducible refine gate_callee (f := 94) rfl ?_); refine gl_ (some 10) Try.func94 #[.pointer (some ⟨gb587, 0, none⟩)] rfl rfl rfl ?_; (with_reducible refine (spec_l1Cur_anyModel.calls k gb587 l0 0 0 t588 t589 t590 t591 t594 t597 t600 t601 w _ ?side1 ?side2 A2.out).mono ?_); (case side1 => exact IsS106.q HI587); (case side2 => exact hbI_ HB (IsS106.ge HI587.out)); rintro e w7 ⟨v592, v595, v598, rfl, ho0, ho1, ho2, hi, hb, hk⟩; refine ⟨_, rfl, ?_⟩; have HO593 := Aside0.mk (Kd.R_lower ho0 (below_size (hbI_ HB (IsS106.ge HI587.out)))); have HO596 := Aside0.mk (Kd.R_lower ho1 (below_size (hbI_ HB (IsS106.ge HI587.out)))); have HO599 := Aside0.mk (Kd.R_lower ho2 (below_size (hbI_ HB (IsS106.ge HI587.out)))); replace BK586 := kk_ BK586 hk NB586_587; replace HB := Aside0.mk (hb); replace HI587 := Aside0.mk (hi)) | ((with_reducible refine gate_dst (N := 4) rfl ?_); refine bv_ 4 (cs := #[.int .i64 0, .int .i64 0, .int .i64 0, .slice none 0 0, .slice none 0 0, .slice none 0 0]) (t := 34) ?_; intro gb602 hg w8 hbox hb; have BK602 := Aside0.mk (hbox); have GW602 := Aside0.mk ((by rw [hg]; exact (below_size (hbI_ HB (IsS106.ge HI587.out))) : w.heap.size ≤ gb602)); have GE602 := Aside0.mk ((by rw [hg]; exact (below_size (hbI_ HB (IsS106.ge HI587.out))) : w.heap.size ≤ gb602)); have NB586_602 := nl_ hg BK586; have NB602_586 := ng_ hg BK586; have NB587_602 := Aside0.mk ((by rw [hg]; exact Nat.ne_of_lt (IsS106.lt (show IsS106 w _ gb587 l0 t600 t601 from IsS106.q HI587)) : gb587 ≠ gb602)); have NB602_587 := Aside0.mk ((by rw [hg]; exact Nat.ne_of_gt (IsS106.lt (show IsS106 w _ gb587 l0 t600 t601 from IsS106.q HI587)) : gb602 ≠ gb587)); replace HO593 := Kd.R_b HO593 hb; replace HO596 := Kd.R_b HO596 hb; replace HO599 := Kd.R_b HO599 hb; replace BK586 := kb_ BK586 hb; replace HB := Aside0.mk (below_step (hbI_ HB (IsS106.ge HI587.out)) hb); replace HI587 := IsS106.b HI587 hb; clear hb hbox hg; have := NB602_586.out; have := NB586_602.out; have := NB602_587.out; have := NB587_602.out; obtain ⟨hcz11_0, hcz11_1, hcz11_2, hcz11_3, hcz11_4, hcz11_5, hfz11_0, hfz11_1, hfz11_2, hfz11_3, hfz11_4, hfz11_5⟩ := bx6 BK602; obtain ⟨Ao12, co12, eo12⟩ := Kd.R_slice HO593.out; subst eo12; obtain ⟨Ao13, co13, eo13⟩ := Kd.R_slice HO596.out; subst eo13; obtain ⟨Ao14, co14, eo14⟩ := Kd.R_slice HO599.out; subst eo14) | ((with_reducible refine gate_callee (f := 88) rfl ?_); refine gl_ (some 12) Try.func88 #[.pointer (some ⟨gb587, 0, none⟩), .int .i64 2] rfl rfl rfl ?_; (with_reducible refine (spec_l1Cur_one.calls gb587 l0 t600 t601 2 true t604 t605 w _ ?side1 ?side2 A3.out).mono ?_); (case side1 => exact IsS106.q HI587); (case side2 => exact hbI_ HB (IsS106.ge HI587.out)); rintro e w15 ⟨rfl, hi, hb, hk⟩; refine ⟨_, rfl, ?_⟩; replace BK586 := Aside0.mk (KeepBut.blk hk (g' := gb586) (o := .cells #[.int .i64 0, .int .i64 0, .int .i64 0, .slice none 0 0, .slice none 0 0, .slice none 0 0] 34 (0, 0)) (kf_ BK586 NB586_602) NB586_587.out (by simp)); replace HO593 := Aside0.mk (Kd.R_mono (Kd.R_keep (IsS106.apart (show IsS106 w _ gb587 l0 t600 t601 from IsS106.q HI587) (Kd.R_s HO593 BK602) (by decide)) hk (fun _ h => h.2)) (fun _ h => h.1)); replace HO596 := Aside0.mk (Kd.R_mono (Kd.R_keep (IsS106.apart (show IsS106 w _ gb587 l0 t600 t601 from IsS106.q HI587) (Kd.R_s HO596 BK602) (by decide)) hk (fun _ h => h.2)) (fun _ h => h.1)); replace HO599 := Aside0.mk (Kd.R_mono (Kd.R_keep (IsS106.apart (show IsS106 w _ gb587 l0 t600 t601 from IsS106.q HI587) (Kd.R_s HO599 BK602) (by decide)) hk (fun _ h => h.2)) (fun _ h => h.1)); replace HB := Aside0.mk (hb); replace BK602 := Aside0.mk (KeepBut.blk hk (g' := gb602) (o := .cells #[.int .i64 t588, .int .i64 t589, .int .i64 t590, .slice Ao12 t591.length co12, .slice Ao13 t594.length co13, .slice Ao14 t597.length co14] 34 (0, 0)) (kpq_ (kputs BK602 [(0, _), (1, _), (2, _), (3, _), (4, _), (5, _)])) NB602_587.out (by simp)); replace HI587 := Aside0.mk (hi); obtain ⟨hcz16_0, hcz16_1, hcz16_2, hcz16_3, hcz16_4, hcz16_5, hfz16_0, hfz16_1, hfz16_2, hfz16_3, hfz16_4, hfz16_5⟩ := bx6 BK602))
  go_loopg [16] k (fun kq v16 w' => ∃ (x16_1 : Int) (x603003_1 : List Int) (x603004_1 : List Int) (x603005_1 : List Int) (u603003 : Value) (u603004 : Value) (u603005 : Value), v16 = .int .i64 x16_1 ∧ Aside0 (spec_DrawCoarseModel.l0 kq (t591.length : Int) x16_1 t588 t589 t590 x603003_1 x603004_1 x603005_1 = some (r1, r2, r3, r4, r5, r6)) ∧ Aside0 (kq ≤ k) ∧ Aside0 (Kd.R (Kd.int .i64) 3 w' w.heap.size (fun k_ => some k_ ≠ (u603004 : Value).ownBlock ∧ some k_ ≠ (u603005 : Value).ownBlock) u603003 x603003_1) ∧ Aside0 (Kd.R (Kd.int .i64) 3 w' w.heap.size (fun k_ => some k_ ≠ (u603003 : Value).ownBlock ∧ some k_ ≠ (u603005 : Value).ownBlock) u603004 x603004_1) ∧ Aside0 (Kd.R (Kd.int .i64) 3 w' w.heap.size (fun k_ => some k_ ≠ (u603003 : Value).ownBlock ∧ some k_ ≠ (u603004 : Value).ownBlock) u603005 x603005_1) ∧ Aside0 (w'.heap[gb586]? = some (.cells #[.int .i64 0, .int .i64 0, .int .i64 0, (.slice none 0 0), (.slice none 0 0), (.slice none 0 0)] 34 (0, 0))) ∧ Aside0 (w'.heap[gb602]? = some (.cells #[.int .i64 t588, .int .i64 t589, .int .i64 t590, u603003, u603004, u603005] 34 (0, 0))) ∧ Aside0 (Below w.heap.size w w'))
  case atStart => exact ⟨(0), (t591), (t594), (t597), (.slice Ao12 t591.length co12), (.slice Ao13 t594.length co13), (.slice Ao14 t597.length co14), (by first | rfl | (simp; done) | (simp [*]; done)), H', ⟨Nat.le_refl _⟩, ⟨Kd.R_p HO593⟩, ⟨Kd.R_p HO596⟩, ⟨Kd.R_p HO599⟩, ⟨kp_ BK586⟩, ⟨kp_ BK602⟩, ⟨hbI_ HB (IsS106.ge HI587.out)⟩⟩
  clear H'
  obtain ⟨x16_1, x603003_1, x603004_1, x603005_1, u603003, u603004, u603005, rfl, HA, HK1, HO_603003, HO_603004, HO_603005, BK586, BK602, HB⟩ := hrel
  cases gk with
  | zero => exact absurd HA.out (by simp [spec_DrawCoarseModel.l0])
  | succ k1 => ?_
  have H := HA.out
  clear HA
  simp only [spec_DrawCoarseModel.l0] at H
  by_cases c17 : x16_1 < (t591.length : Int)
  ·rw [if_pos c17] at H
   have c17b0 := decide_eq_true c17
   clear c17
   by_cases c18 : 0 ≤ x16_1
   case neg => rw [if_neg c18] at H; exact absurd H (by simp)
   rw [if_pos c18] at H
   have c18b0 := decide_eq_true c18
   clear c18
   by_cases c19 : x16_1 < (x603003_1.length : Int)
   case neg => rw [if_neg c19] at H; exact absurd H (by simp)
   rw [if_pos c19] at H
   have c19b0 := decide_eq_true c19
   clear c19
   replace H := Option.bind_eq_some_iff.mp H
   obtain ⟨t607, A200, H⟩ := H
   try dsimp only at H
   have A20 := Aside0.mk A200
   clear A200
   obtain ⟨y608, hy608⟩ : ∃ y_ : List Int, y_ = (x603003_1.set (x16_1 : Int).toNat t607) := ⟨_, rfl⟩
   (try with_reducible replace H := (Option.bind_some _ _).symm.trans H); (try dsimp only at H); (try rw [← hy608] at H)
   have Ny608 := Aside0.mk hy608
   clear hy608
   have H' := Aside0.mk H
   clear H
   try go_wp2
   replace HO_603003 := Aside0.mk (Kd.R_drew HO_603003.out)
   replace HO_603004 := Aside0.mk (Kd.R_drew HO_603004.out)
   replace HO_603005 := Aside0.mk (Kd.R_drew HO_603005.out)
   replace BK586 := Aside0.mk (blk_drew BK586.out)
   replace BK602 := Aside0.mk (blk_drew BK602.out)
   replace HB := Aside0.mk (below_drew1 HB.out)
   obtain ⟨Ao23, co23, eo23⟩ := Kd.R_slice HO_603003.out
   (first | subst eo23 | (injection eo23 with f1_ f2_ f3_; have f4_ := f1_.symm; have f5_ := f3_.symm; clear f1_ f2_ f3_; subst f4_; subst f5_))
   obtain ⟨ad606, e606, hx606_0, p606, q606⟩ := ai_ (Kd.R_reads' HO_603003.out).2.2 x16_1
   cases e606
   refine start_ (n := 11) (S := fun w' => w'.cell? ⟨gb602, 0, none⟩ = some (.int .i64 t588) ∧ w'.cell? ⟨gb602, 1, none⟩ = some (.int .i64 t589) ∧ w'.cell? ⟨gb602, 2, none⟩ = some (.int .i64 t590) ∧ w'.cell? ⟨gb602, 3, none⟩ = some (.slice (some ad606) x603003_1.length co23) ∧ w'.cell? ⟨gb602, 4, none⟩ = some (u603004) ∧ w'.cell? ⟨gb602, 5, none⟩ = some (u603005) ∧ w'.cell? (ad606.add (x16_1).toNat) = some (.int .i64 (rd x603003_1 x16_1))) (ds := [10]) (bb 11 0) (by kernel_rfl) rfl rfl ⟨(blk_cell BK602.out 0).trans rfl, (blk_cell BK602.out 1).trans rfl, (blk_cell BK602.out 2).trans rfl, (blk_cell BK602.out 3).trans rfl, (blk_cell BK602.out 4).trans rfl, (blk_cell BK602.out 5).trans rfl, hx606_0⟩ (fun hHeld => ?_); refine with_tabW spec_DrawCoarseModel.tab7 spec_DrawCoarseModel.bits7 (fun HT_ HW_ => ?_)
   generalize wr.drew = w22 at HO_603003 HO_603004 HO_603005 BK586 BK602 HB hx606_0 hHeld ⊢
   refine pl_ HT_ 0 (some 19) (bb 11 1) (h := ?_)
   refine pl_ HT_ 2 (some 21) (bb 11 5) (h := ?_)
   refine pl_ HT_ 3 (some 22) (bb 11 13) (h := ?_)
   refine pl_ HT_ 5 (some 24) (bb 11 45) (h := ?_)
   refine tk_ HT_ HW_ hHeld 1 (some 20) (bb 11 47) (h := ?_)
   refine tk_ HT_ HW_ hHeld 4 (some 23) (bb 11 63) (h := ?_)
   refine pl_ HT_ 6 (some 25) (bb 11 127) (h := ?_)
   refine tk_ HT_ HW_ hHeld 7 (some 26) (bb 11 255) (h := ?_)
   refine one_ (i := 8) (N := some 27) (bb 11 511) rfl rfl (one_of HT_.out (by kernel_rfl)) (by decide) (fun K hK => ?_)
   refine goes_ Try.func95 (by kernel_rfl) rfl #[.int .i64 (rd x603003_1 x16_1), .int .i64 2500] (by rfl) rfl rfl (by (try simp only [List.map_toArray, List.map_cons, List.map_nil]); first | done | rfl | (simp only [List.length_drop, List.length_take]; rfl)) ?_
   with_reducible refine (spec_l1Least.calls (rd x603003_1 x16_1) 2500 t607 _ A20.out).mono ?_
   rintro e w' ⟨rfl, ⟨nd, rfl⟩⟩
   refine ⟨_, rfl, ?_⟩
   have p21 : 0 ≤ (x16_1 : Int) := of_decide_eq_true (by first | (with_reducible assumption) | assumption)
   have q21 : (x16_1 : Int) < ((x603003_1.length : Int) : Int) := of_decide_eq_true (by first | (with_reducible assumption) | assumption)
   obtain ⟨go21, co21, eo21, gb21, gl21, cl21, HG21⟩ := Kd.R_form HO_603003.out (by omega)
   (first | cases eo21 | (injection eo21 with ea_ en_ ec_; (first | subst ea_ | (injection ea_ with ea_; subst ea_)); subst ec_; clear en_))
   have GB21 := Aside0.mk gb21
   have GG21 := Aside0.mk HG21
   clear gb21 gl21 HG21
   (first | simp only [add_plain] at hx606_0 | skip)
   obtain ⟨hx21_0, hf21_0⟩ := Kd.R_celln 0 HO_603003.out (x16_1 : Int) p21 q21
   replace p21 := eq_true p21
   replace q21 := eq_true q21
   have HP24 := Kd.R_putn HO_603003.out (x16_1 : Int) t607
   rw [← Ny608.out] at HP24
   have HQ24 := Aside0.mk HP24
   clear HP24
   refine hK.out _ _ ⟨(blk_cell BK602.out 0).trans rfl, (blk_cell BK602.out 1).trans rfl, (blk_cell BK602.out 2).trans rfl, (blk_cell BK602.out 3).trans rfl, (blk_cell BK602.out 4).trans rfl, (blk_cell BK602.out 5).trans rfl, hHeld.2.2.2.2.2.2⟩ (fun hHeld => ?_)
   clear hK K
   refine nm_ (some 27) (h := ?_)
   refine pl_ HT_ 9 (some 28) (bb 11 1023) (h := ?_)
   refine last_ (i := 10) (N := none) (bb 11 2047) rfl rfl (one_of HT_.out (by kernel_rfl)) (by decide) (fun K hK => ?_)
   refine skip_ (w1 := ?_) (by rfl) rfl ?_ ?_
   rotate_left
   ·go_simp
    rfl
   refine hK.out _ _ ?_
   clear hK K
   refine done_ (done_of HT_.out (by kernel_rfl)) ?_
   try go_wp2
   go_roundg k1
   case measure => have := HK1.out; omega
   case rel => rw [setCell_drewN_]; exact ⟨(wrap64 (x16_1 + 1)), (y608), (x603004_1), (x603005_1), (.slice (some ⟨go21, 0, none⟩) x603003_1.length co23), (u603004), (u603005), (by first | rfl | (simp; done) | (simp [*]; done)), H', ⟨by have := HK1.out; omega⟩, ⟨Kd.R_p HQ24⟩, ⟨Kd.R_pp (Kd.R_mono (Kd.R_far (p := ⟨go21, (x16_1 : Int).toNat, none⟩) (Kd.R_mono HO_603004.out (fun k_ hk => (⟨hk, fun e_ => hk.1 (by rw [e_]; rfl)⟩ : _ ∧ k_ ≠ go21))) (fun _ hk => hk.2) (.int .i64 t607)) (fun _ hk => ⟨hk.1.1, hk.1.2⟩))⟩, ⟨Kd.R_pp (Kd.R_mono (Kd.R_far (p := ⟨go21, (x16_1 : Int).toNat, none⟩) (Kd.R_mono HO_603005.out (fun k_ hk => (⟨hk, fun e_ => hk.1 (by rw [e_]; rfl)⟩ : _ ∧ k_ ≠ go21))) (fun _ hk => hk.2) (.int .i64 t607)) (fun _ hk => ⟨hk.1.1, hk.1.2⟩))⟩, ⟨by (with_reducible repeat (first | refine blk_drewN ?_ _ | refine blk_drew ?_ | refine blk_alloc ?_ _)); refine blk_far ?_ (by have h_ := Kd.R_ne HO_603003.out BK586.out (by decide); intro e_; exact h_ (by rw [e_]; rfl)) _; (with_reducible repeat (first | refine blk_drewN ?_ _ | refine blk_drew ?_ | refine blk_alloc ?_ _)); exact BK586.out⟩, ⟨by (with_reducible repeat (first | refine blk_drewN ?_ _ | refine blk_drew ?_ | refine blk_alloc ?_ _)); refine blk_far ?_ (by have h_ := Kd.R_ne HO_603003.out BK602.out (by decide); intro e_; exact h_ (by rw [e_]; rfl)) _; (with_reducible repeat (first | refine blk_drewN ?_ _ | refine blk_drew ?_ | refine blk_alloc ?_ _)); exact BK602.out⟩, ⟨by repeat (first | (with_reducible first | exact HB.out | apply below_alloc | apply pw_below_drewN | apply below_drew1 | refine below_set ?_ GB21.out | refine below_set ?_ GE586.out | refine below_set ?_ GE602.out) | exact HB.out)⟩⟩
  rw [if_neg c17] at H
  have c17b0 := decide_eq_false c17
  clear c17
  simp only [Option.some.injEq, Prod.mk.injEq] at H
  obtain ⟨rfl, rfl, rfl, rfl, rfl, rfl⟩ := H
  have := NB602_586.out
  have := NB586_602.out
  obtain ⟨hcz26_0, hcz26_1, hcz26_2, hcz26_3, hcz26_4, hcz26_5, hfz26_0, hfz26_1, hfz26_2, hfz26_3, hfz26_4, hfz26_5⟩ := bx6 BK602
  obtain ⟨hcz27_0, hcz27_1, hcz27_2, hcz27_3, hcz27_4, hcz27_5, hfz27_0, hfz27_1, hfz27_2, hfz27_3, hfz27_4, hfz27_5⟩ := bx6 BK586
  obtain ⟨Ao28, co28, eo28⟩ := Kd.R_slice HO_603003.out
  subst eo28
  obtain ⟨Ao29, co29, eo29⟩ := Kd.R_slice HO_603004.out
  subst eo29
  obtain ⟨Ao30, co30, eo30⟩ := Kd.R_slice HO_603005.out
  subst eo30
  go_wp2
  refine bodyPost_ret (results_cell_row rfl _ _ gb586 34 #[.int .i64 t588, .int .i64 t589, .int .i64 t590, .slice Ao28 x603003_1.length co28, .slice Ao29 x603004_1.length co29, .slice Ao30 x603005_1.length co30] (0, 0) _ rfl (kpq_ (kputs BK586 [(0, _), (1, _), (2, _), (3, _), (4, _), (5, _)])) Try.underlying34 rfl (by kernel_rfl)) rfl ?_
  exact ⟨_, _, _, by first | rfl | (simp [errW_none, errW_some] <;> rfl) | (simp [*, errW_none, errW_some] <;> rfl), Kd.R_mono (Kd.R_s HO_603003 BK586) (fun _ hk => ⟨hk.1, hk.2⟩), Kd.R_mono (Kd.R_s HO_603004 BK586) (fun _ hk => ⟨hk.1, hk.2⟩), Kd.R_mono (Kd.R_s HO_603005 BK586) (fun _ hk => ⟨hk.1, hk.2⟩), hb_ HB⟩
 replace c4 := Bool.eq_false_iff.mpr c4
 subst c4
 rw [if_neg (show ¬ (false = true) by decide)] at H
 simp only [Option.some.injEq, Prod.mk.injEq] at H
 obtain ⟨rfl, rfl, rfl, rfl, rfl, rfl⟩ := H
 go_enter Try.func50, Try.ntmps50
 go_wp2_with (first | ((with_reducible refine gate_dst (N := 2) rfl ?_); refine bv_ 2 (cs := #[.int .i64 0, .int .i64 0, .int .i64 0, .slice none 0 0, .slice none 0 0, .slice none 0 0]) (t := 34) ?_; intro gb586 hg w31 hbox hb; have BK586 := Aside0.mk (hbox); have GW586 := gs_ hg HB; have GE586 := gs_ hg HB; replace HB := hbs_ HB hb; clear hb hbox hg) | ((with_reducible refine gate_dst (N := 8) rfl ?_); refine bv_ 8 (cs := #[.slice A0 l0.length c0, .int .i64 0, .int .u64 0]) (t := 106) ?_; intro gb587 hg w32 hbox hb; have HI587 := Aside0.mk ((show IsS106 w w32 gb587 l0 0 0 from ⟨A0, c0, hbox, (by rw [hg]; exact (below_size (hb_ HB))), HR0.out⟩)); have GW587 := gs_ hg HB; have GE587 := gs_ hg HB; have NB586_587 := nl_ hg BK586; have NB587_586 := ng_ hg BK586; replace BK586 := kb_ BK586 hb; replace HB := hbs_ HB hb; clear hb hbox hg) | ((with_reducible refine gate_callee (f := 94) rfl ?_); refine gl_ (some 10) Try.func94 #[.pointer (some ⟨gb587, 0, none⟩)] rfl rfl rfl ?_; (with_reducible refine (spec_l1Cur_anyModel.calls k gb587 l0 0 0 t588 t589 t590 t591 t594 t597 t600 t601 w _ ?side1 ?side2 A2.out).mono ?_); (case side1 => exact IsS106.q HI587); (case side2 => exact hbI_ HB (IsS106.ge HI587.out)); rintro e w33 ⟨v592, v595, v598, rfl, ho0, ho1, ho2, hi, hb, hk⟩; refine ⟨_, rfl, ?_⟩; have HO593 := Aside0.mk (Kd.R_lower ho0 (below_size (hbI_ HB (IsS106.ge HI587.out)))); have HO596 := Aside0.mk (Kd.R_lower ho1 (below_size (hbI_ HB (IsS106.ge HI587.out)))); have HO599 := Aside0.mk (Kd.R_lower ho2 (below_size (hbI_ HB (IsS106.ge HI587.out)))); replace BK586 := kk_ BK586 hk NB586_587; replace HB := Aside0.mk (hb); replace HI587 := Aside0.mk (hi)) | ((with_reducible refine gate_dst (N := 4) rfl ?_); refine bv_ 4 (cs := #[.int .i64 0, .int .i64 0, .int .i64 0, .slice none 0 0, .slice none 0 0, .slice none 0 0]) (t := 34) ?_; intro gb602 hg w34 hbox hb; have BK602 := Aside0.mk (hbox); have GW602 := Aside0.mk ((by rw [hg]; exact (below_size (hbI_ HB (IsS106.ge HI587.out))) : w.heap.size ≤ gb602)); have GE602 := Aside0.mk ((by rw [hg]; exact (below_size (hbI_ HB (IsS106.ge HI587.out))) : w.heap.size ≤ gb602)); have NB586_602 := nl_ hg BK586; have NB602_586 := ng_ hg BK586; have NB587_602 := Aside0.mk ((by rw [hg]; exact Nat.ne_of_lt (IsS106.lt (show IsS106 w _ gb587 l0 t600 t601 from IsS106.q HI587)) : gb587 ≠ gb602)); have NB602_587 := Aside0.mk ((by rw [hg]; exact Nat.ne_of_gt (IsS106.lt (show IsS106 w _ gb587 l0 t600 t601 from IsS106.q HI587)) : gb602 ≠ gb587)); replace HO593 := Kd.R_b HO593 hb; replace HO596 := Kd.R_b HO596 hb; replace HO599 := Kd.R_b HO599 hb; replace BK586 := kb_ BK586 hb; replace HB := Aside0.mk (below_step (hbI_ HB (IsS106.ge HI587.out)) hb); replace HI587 := IsS106.b HI587 hb; clear hb hbox hg; have := NB602_586.out; have := NB586_602.out; have := NB602_587.out; have := NB587_602.out; obtain ⟨hcz37_0, hcz37_1, hcz37_2, hcz37_3, hcz37_4, hcz37_5, hfz37_0, hfz37_1, hfz37_2, hfz37_3, hfz37_4, hfz37_5⟩ := bx6 BK602; obtain ⟨Ao38, co38, eo38⟩ := Kd.R_slice HO593.out; subst eo38; obtain ⟨Ao39, co39, eo39⟩ := Kd.R_slice HO596.out; subst eo39; obtain ⟨Ao40, co40, eo40⟩ := Kd.R_slice HO599.out; subst eo40) | ((with_reducible refine gate_callee (f := 88) rfl ?_); refine gl_ (some 12) Try.func88 #[.pointer (some ⟨gb587, 0, none⟩), .int .i64 2] rfl rfl rfl ?_; (with_reducible refine (spec_l1Cur_one.calls gb587 l0 t600 t601 2 false t604 t605 w _ ?side1 ?side2 A3.out).mono ?_); (case side1 => exact IsS106.q HI587); (case side2 => exact hbI_ HB (IsS106.ge HI587.out)); rintro e w41 ⟨rfl, hi, hb, hk⟩; refine ⟨_, rfl, ?_⟩; replace BK586 := Aside0.mk (KeepBut.blk hk (g' := gb586) (o := .cells #[.int .i64 0, .int .i64 0, .int .i64 0, .slice none 0 0, .slice none 0 0, .slice none 0 0] 34 (0, 0)) (kf_ BK586 NB586_602) NB586_587.out (by simp)); replace HO593 := Aside0.mk (Kd.R_mono (Kd.R_keep (IsS106.apart (show IsS106 w _ gb587 l0 t600 t601 from IsS106.q HI587) (Kd.R_s HO593 BK602) (by decide)) hk (fun _ h => h.2)) (fun _ h => h.1)); replace HO596 := Aside0.mk (Kd.R_mono (Kd.R_keep (IsS106.apart (show IsS106 w _ gb587 l0 t600 t601 from IsS106.q HI587) (Kd.R_s HO596 BK602) (by decide)) hk (fun _ h => h.2)) (fun _ h => h.1)); replace HO599 := Aside0.mk (Kd.R_mono (Kd.R_keep (IsS106.apart (show IsS106 w _ gb587 l0 t600 t601 from IsS106.q HI587) (Kd.R_s HO599 BK602) (by decide)) hk (fun _ h => h.2)) (fun _ h => h.1)); replace HB := Aside0.mk (hb); replace BK602 := Aside0.mk (KeepBut.blk hk (g' := gb602) (o := .cells #[.int .i64 t588, .int .i64 t589, .int .i64 t590, .slice Ao38 t591.length co38, .slice Ao39 t594.length co39, .slice Ao40 t597.length co40] 34 (0, 0)) (kpq_ (kputs BK602 [(0, _), (1, _), (2, _), (3, _), (4, _), (5, _)])) NB602_587.out (by simp)); replace HI587 := Aside0.mk (hi); obtain ⟨hcz42_0, hcz42_1, hcz42_2, hcz42_3, hcz42_4, hcz42_5, hfz42_0, hfz42_1, hfz42_2, hfz42_3, hfz42_4, hfz42_5⟩ := bx6 BK602; have := NB586_587.out; have := NB587_586.out; obtain ⟨hcz44_0, hcz44_1, hcz44_2, hcz44_3, hcz44_4, hcz44_5, hfz44_0, hfz44_1, hfz44_2, hfz44_3, hfz44_4, hfz44_5⟩ := bx6 BK586))
 refine bodyPost_ret (results_cell_row rfl _ _ gb586 34 #[.int .i64 t588, .int .i64 t589, .int .i64 t590, .slice Ao38 t591.length co38, .slice Ao39 t594.length co39, .slice Ao40 t597.length co40] (0, 0) _ rfl (kpq_ (kputs BK586 [(0, _), (1, _), (2, _), (3, _), (4, _), (5, _)])) Try.underlying34 rfl (by kernel_rfl)) rfl ?_
 exact ⟨_, _, _, by first | rfl | (simp [errW_none, errW_some] <;> rfl) | (simp [*, errW_none, errW_some] <;> rfl), Kd.R_mono (Kd.R_s HO593 BK586) (fun _ hk => ⟨hk.1, hk.2⟩), Kd.R_mono (Kd.R_s HO596 BK586) (fun _ hk => ⟨hk.1, hk.2⟩), Kd.R_mono (Kd.R_s HO599 BK586) (fun _ hk => ⟨hk.1, hk.2⟩), hbI_ HB (IsS106.ge HI587.out)⟩

/-! ### spec_l1Most: function 118 -/
def spec_l1Most.f (a0 : Int) (a1 : Int) : Option (Int) := if a0 > a1 then (some a0) else (some a1)
set_option maxHeartbeats 8000000 in
set_option maxRecDepth 100000 in
theorem spec_l1Most.calls (a0 : Int) (a1 : Int) (r : Int) (w : World) (h : spec_l1Most.f a0 a1 = some r) :
  Calls Try.prog 118 #[.int .i64 a0, .int .i64 a1] w fun e w' => e = .returned (.int .i64 r) ∧ Drawn0 w w' := by
 have H := h
 unfold spec_l1Most.f at H
 clear h
 by_cases c3 : a0 > a1
 ·rw [if_pos c3] at H
  have c3b0 : decide (a1 < a0) = true := decide_eq_true c3
  clear c3
  obtain rfl := Option.some.inj H
  go_enter Try.func118, Try.ntmps118
  go_wp2
  go_ret
  exact ⟨by first | rfl | (simp; done) | (simp [*]; done), by repeat (first | exact Drawn0.refl _ | apply Drawn0.step)⟩
 rw [if_neg c3] at H
 have c3b0 : decide (a1 < a0) = false := decide_eq_false c3
 clear c3
 obtain rfl := Option.some.inj H
 go_enter Try.func118, Try.ntmps118
 go_wp2
 go_ret
 exact ⟨by first | rfl | (simp; done) | (simp [*]; done), by repeat (first | exact Drawn0.refl _ | apply Drawn0.step)⟩

/-! ### spec_l1Cur_piece: function 90 -/
def spec_l1Cur_piece.j0 : Nat → List Int → Int → Int → Int → Int → Int → Option (Int × Int × Int × Int × Int)
 | 0, _, _, _, _, _, _ => none
 | k + 1, x1000, x1001, x1002, x620000, x620001, x620002 => (spec_l1Cur_pick.f x1000 x1001 x1002 24).bind fun bt631 => (if bt631.1 = 0 then ((spec_l1Cur_among.f x1000 bt631.2.1 bt631.2.2 (([(-1), 10001] : List Int))).bind fun bt637 => (some (bt637.1, x620001, x620002, bt637.2.1, bt637.2.2))) else (if bt631.1 = 1 then ((spec_l1Cur_among.f x1000 bt631.2.1 bt631.2.2 (([(-1), wrap64 (1000 * x620000), wrap64 ((wrap64 (1000 * x620000)) + 1)] : List Int))).bind fun bt643 => (some (x620000, bt643.1, x620002, bt643.2.1, bt643.2.2))) else (if bt631.1 = 2 then ((spec_l1Cur_among.f x1000 bt631.2.1 bt631.2.2 (([(-1), 4, 5] : List Int))).bind fun bt649 => (some (x620000, x620001, bt649.1, bt649.2.1, bt649.2.2))) else (some (x620000, x620001, x620002, bt631.2.1, bt631.2.2)))))
def spec_l1Cur_piece.f (k : Nat) (s0_0 : List Int) (s0_1 : Int) (s0_2 : Int) : Option (Int × Int × Int × Int × Int) := (spec_l1Cur_among.f s0_0 s0_1 s0_2 (([0, 1, 100, 500, 2500, 10000] : List Int))).bind fun bt613 => ((spec_l1Cur_pick.f s0_0 bt613.2.1 bt613.2.2 5).bind fun bt616 => ((spec_l1Cur_pick.f s0_0 bt616.2.1 bt616.2.2 60).bind fun bt620 => ((spec_l1Cur_one.f s0_0 bt620.2.1 bt620.2.2 2).bind fun bt623 => (if bt623.1 = true then ((spec_l1Least.f 60000 (wrap64 ((wrap64 (1000 * bt613.1)) + 1))).bind fun t626 => ((spec_l1Most.f 1 t626).bind fun t627 => ((spec_l1Cur_pick.f s0_0 bt623.2.1 bt623.2.2 t627).bind fun bt628 => (spec_l1Cur_piece.j0 k s0_0 bt628.2.1 bt628.2.2 bt613.1 bt628.1 bt616.1)))) else (spec_l1Cur_piece.j0 k s0_0 bt623.2.1 bt623.2.2 bt613.1 (wrap64 (bt613.1 * bt620.1)) bt616.1)))))
set_option maxHeartbeats 8000000 in
set_option maxRecDepth 100000 in
theorem spec_l1Cur_piece.calls (k : Nat) (g : Nat) (s0_0 : List Int) (s0_1 : Int) (s0_2 : Int) (r1 : Int) (r2 : Int) (r3 : Int) (r4 : Int) (r5 : Int) (w0 w : World) (hI : IsS106 w0 w g s0_0 s0_1 s0_2) (hB : Below w0.heap.size w0 w) (h : spec_l1Cur_piece.f k s0_0 s0_1 s0_2 = some (r1, r2, r3, r4, r5)) :
  Calls Try.prog 90 #[.pointer (some ⟨g, 0, none⟩)] w fun e w' => e = .returned (.agg #[.int .i64 r1, .int .i64 r2, .int .i64 r3]) ∧ IsS106 w0 w' g s0_0 r4 r5 ∧ Below w0.heap.size w0 w' ∧ KeepBut w w' g none := by
 have hu29 := Try.underlying29
 have HI0 := Aside0.mk hI
 have HK := Aside0.mk (KeepBut.refl w g none)
 have HL := Aside0.mk hB.size
 clear hI
 have HW0 := Aside0.mk hB.size
 have HB := Aside0.mk hB
 clear hB
 have H := h
 unfold spec_l1Cur_piece.f at H
 clear h
 obtain ⟨y610, hy610⟩ : ∃ y_ : List Int, y_ = (([0, 1, 100, 500, 2500, 10000] : List Int)) := ⟨_, rfl⟩
 (try with_reducible replace H := (Option.bind_some _ _).symm.trans H); (try dsimp only at H); (try rw [← hy610] at H)
 have Ny610 := Aside0.mk hy610
 clear hy610
 replace H := Option.bind_eq_some_iff.mp H
 obtain ⟨⟨t613, t614, t615⟩, A20, H⟩ := H
 try dsimp only at H
 have A2 := Aside0.mk A20
 clear A20
 replace H := Option.bind_eq_some_iff.mp H
 obtain ⟨⟨t616, t617, t618⟩, A30, H⟩ := H
 try dsimp only at H
 have A3 := Aside0.mk A30
 clear A30
 replace H := Option.bind_eq_some_iff.mp H
 obtain ⟨⟨t620, t621, t622⟩, A40, H⟩ := H
 try dsimp only at H
 have A4 := Aside0.mk A40
 clear A40
 replace H := Option.bind_eq_some_iff.mp H
 obtain ⟨⟨t623, t624, t625⟩, A50, H⟩ := H
 try dsimp only at H
 have A5 := Aside0.mk A50
 clear A50
 have HC6 := Aside0.mk H
 clear H
 go_enter Try.func90, Try.ntmps90
 try go_wp2_with (first | ((with_reducible refine gate_dst (N := 2) rfl ?_); refine bv_ 2 (cs := #[.int .i64 0, .int .i64 0, .int .i64 0]) (t := 29) ?_; intro gb609 hg w7 hbox hb; have BK609 := Aside0.mk (hbox); have GW609 := Aside0.mk ((by rw [hg]; exact (keep_size (hk_ HK)) : w.heap.size ≤ gb609)); have GE609 := Aside0.mk ((Nat.le_trans HW0.out (by rw [hg]; exact (keep_size (hk_ HK)) : w.heap.size ≤ gb609) : w0.heap.size ≤ gb609)); have NB0_609 := Aside0.mk ((by rw [hg]; exact Nat.ne_of_lt (IsS106.lt (show IsS106 w0 _ g s0_0 s0_1 s0_2 from IsS106.q HI0)) : g ≠ gb609)); have NB609_0 := Aside0.mk ((by rw [hg]; exact Nat.ne_of_gt (IsS106.lt (show IsS106 w0 _ g s0_0 s0_1 s0_2 from IsS106.q HI0)) : gb609 ≠ g)); replace HK := hkb_ HK hb; replace HB := Aside0.mk (below_step (hbI_ HB (IsS106.ge HI0.out)) hb); replace HI0 := IsS106.b HI0 hb; clear hb hbox hg) | ((with_reducible refine gate_dst (N := 5) rfl ?_); refine Kd.R_lit (Kd.int .i64) _ 3 ?hg (N := 5) ?hd (xs := ([0, 1, 100, 500, 2500, 10000] : List Int)) (inner := [.int .i64 0, .int .i64 1, .int .i64 100, .int .i64 500, .int .i64 2500, .int .i64 10000]) (ok := fun _ => True) (okp := fun _ => True) ?hr ?hp (fun _ hk => hk) trivial (Below.refl _ _) (Nat.le_refl _) (by simp) ?_; (case hd => rfl); (case hg => rfl); (case hr => first | (go_simp; done) | (go_simp; rfl)); (case hp => exact (Reps.one (show Kd.M (Kd.int .i64) _ _ _ 0 [.int .i64 0] from rfl) (Reps.one (show Kd.M (Kd.int .i64) _ _ _ 1 [.int .i64 1] from rfl) (Reps.one (show Kd.M (Kd.int .i64) _ _ _ 100 [.int .i64 100] from rfl) (Reps.one (show Kd.M (Kd.int .i64) _ _ _ 500 [.int .i64 500] from rfl) (Reps.one (show Kd.M (Kd.int .i64) _ _ _ 2500 [.int .i64 2500] from rfl) (Reps.one (show Kd.M (Kd.int .i64) _ _ _ 10000 [.int .i64 10000] from rfl) (Reps.none _ _)))))))); intro v611 w8 ho9 hb hg_ hnew_; clear hg_ hnew_; (first | rw [← Ny610.out] at ho9 | (simp only [Int.reduceToNat] at ho9; rw [← Ny610.out] at ho9)); have HO612 := Aside0.mk (Kd.R_lower ho9 (keep_size (hk_ HK))); replace BK609 := kb_ BK609 hb; replace HK := hkb_ HK hb; replace HB := Aside0.mk (below_step (hbI_ HB (IsS106.ge HI0.out)) hb); replace HI0 := IsS106.b HI0 hb; clear hb ho9; obtain ⟨Ao10, co10, eo10⟩ := Kd.R_slice HO612.out; subst eo10) | ((with_reducible refine gate_callee (f := 89) rfl ?_); refine gl_ (some 6) Try.func89 #[.pointer (some ⟨g, 0, none⟩), .slice Ao10 y610.length co10] rfl rfl rfl ?_; (with_reducible refine (spec_l1Cur_among.calls g s0_0 s0_1 s0_2 _ _ y610 t613 t614 t615 w0 _ ?side1 ?side2 ?side3 ?side4 ?side5 A2.out).mono ?_); (case side1 => exact IsS106.q HI0); (case side2 => exact hbI_ HB (IsS106.ge HI0.out)); (case side3 => exact Kd.C_o HO612); (case side4 => exact (Kd.R_reads' HO612.out).2.1); (case side5 => exact far_slice (IsS106.own_ne HI0.out HO612.out (by decide))); rintro e w11 ⟨rfl, hi, hb, hk⟩; refine ⟨_, rfl, ?_⟩; replace BK609 := Aside0.mk (KeepBut.blk hk (kp_ BK609) NB609_0.out (by simp)); replace HO612 := IsS106.rk HI0 HO612 hk; replace HK := Aside0.mk (KeepBut.trans (hk_ HK) hk (.inl rfl)); replace HB := Aside0.mk (hb); replace HI0 := Aside0.mk (hi); try clear HO612) | ((with_reducible refine gate_callee (f := 87) rfl ?_); refine gl_ (some 8) Try.func87 #[.pointer (some ⟨g, 0, none⟩), .int .i64 5] rfl rfl rfl ?_; (with_reducible refine (spec_l1Cur_pick.calls g s0_0 t614 t615 5 t616 t617 t618 w0 _ ?side1 ?side2 A3.out).mono ?_); (case side1 => exact IsS106.q HI0); (case side2 => exact hbI_ HB (IsS106.ge HI0.out)); rintro e w12 ⟨rfl, hi, hb, hk⟩; refine ⟨_, rfl, ?_⟩; replace BK609 := kk_ BK609 hk NB609_0; replace HK := Aside0.mk (KeepBut.trans (hk_ HK) hk (.inl rfl)); replace HB := Aside0.mk (hb); replace HI0 := Aside0.mk (hi)) | ((with_reducible refine gate_dst (N := 3) rfl ?_); refine bv_ 3 (cs := #[.int .i64 0, .int .i64 0, .int .i64 0]) (t := 29) ?_; intro gb619 hg w13 hbox hb; have BK619 := Aside0.mk (hbox); have GW619 := Aside0.mk ((by rw [hg]; exact (keep_size (hk_ HK)) : w.heap.size ≤ gb619)); have GE619 := Aside0.mk ((Nat.le_trans HW0.out (by rw [hg]; exact (keep_size (hk_ HK)) : w.heap.size ≤ gb619) : w0.heap.size ≤ gb619)); have NB609_619 := nl_ hg BK609; have NB619_609 := ng_ hg BK609; have NB0_619 := Aside0.mk ((by rw [hg]; exact Nat.ne_of_lt (IsS106.lt (show IsS106 w0 _ g s0_0 t617 t618 from IsS106.q HI0)) : g ≠ gb619)); have NB619_0 := Aside0.mk ((by rw [hg]; exact Nat.ne_of_gt (IsS106.lt (show IsS106 w0 _ g s0_0 t617 t618 from IsS106.q HI0)) : gb619 ≠ g)); replace BK609 := kb_ BK609 hb; replace HK := hkb_ HK hb; replace HB := Aside0.mk (below_step (hbI_ HB (IsS106.ge HI0.out)) hb); replace HI0 := IsS106.b HI0 hb; clear hb hbox hg; have := NB619_609.out; have := NB609_619.out; have := NB619_0.out; have := NB0_619.out; obtain ⟨hcz16_0, hcz16_1, hcz16_2, hfz16_0, hfz16_1, hfz16_2⟩ := bx3 BK619))
 have n0_ : Aside0 ((((w13.setCell ⟨gb619, 0, none⟩ (.int .i64 t613)).setCell ⟨gb619, 1, none⟩ (.int .i64 0)).setCell ⟨gb619, 2, none⟩ (.int .i64 t616)).heap[gb609]? = some (.cells #[.int .i64 0, .int .i64 0, .int .i64 0] 29 (0, 0))) := ⟨kf_ BK609 NB609_619⟩
 have n1_ : Aside0 ((((w13.setCell ⟨gb619, 0, none⟩ (.int .i64 t613)).setCell ⟨gb619, 1, none⟩ (.int .i64 0)).setCell ⟨gb619, 2, none⟩ (.int .i64 t616)).heap[gb619]? = some (.cells #[.int .i64 t613, .int .i64 0, .int .i64 t616] 29 (0, 0))) := ⟨kpq_ (kputs BK619 [(0, _), (1, _), (2, _)])⟩
 have n2_ : Aside0 (IsS106 w0 (((w13.setCell ⟨gb619, 0, none⟩ (.int .i64 t613)).setCell ⟨gb619, 1, none⟩ (.int .i64 0)).setCell ⟨gb619, 2, none⟩ (.int .i64 t616)) g s0_0 t617 t618) := ⟨IsS106.q HI0⟩
 have n3_ : Aside0 (KeepBut w (((w13.setCell ⟨gb619, 0, none⟩ (.int .i64 t613)).setCell ⟨gb619, 1, none⟩ (.int .i64 0)).setCell ⟨gb619, 2, none⟩ (.int .i64 t616)) g none) := ⟨hk_ HK⟩
 have n4_ : Aside0 (Below w0.heap.size w0 (((w13.setCell ⟨gb619, 0, none⟩ (.int .i64 t613)).setCell ⟨gb619, 1, none⟩ (.int .i64 0)).setCell ⟨gb619, 2, none⟩ (.int .i64 t616))) := ⟨hbI_ HB (IsS106.ge HI0.out)⟩
 generalize (((w13.setCell ⟨gb619, 0, none⟩ (.int .i64 t613)).setCell ⟨gb619, 1, none⟩ (.int .i64 0)).setCell ⟨gb619, 2, none⟩ (.int .i64 t616)) = w17 at n0_ n1_ n2_ n3_ n4_ ⊢
 have BK609 := n0_
 have BK619 := n1_
 have HI0 := n2_
 have HK := n3_
 have HB := n4_
 clear n0_ n1_ n2_ n3_ n4_
 replace BK609 := Aside0.mk (blk_drew BK609.out)
 replace BK619 := Aside0.mk (blk_drew BK619.out)
 replace HI0 := Aside0.mk (IsS106.drew HI0.out)
 replace HK := Aside0.mk (keep_drew HK.out)
 replace HB := Aside0.mk (below_drew1 HB.out)
 refine start_ (n := 7) (S := fun w' => w'.cell? ⟨gb619, 0, none⟩ = some (.int .i64 t613) ∧ w'.cell? ⟨gb619, 1, none⟩ = some (.int .i64 0) ∧ w'.cell? ⟨gb619, 2, none⟩ = some (.int .i64 t616)) (ds := [6]) (bb 7 0) (by kernel_rfl) rfl rfl ⟨(blk_cell BK619.out 0).trans rfl, (blk_cell BK619.out 1).trans rfl, (blk_cell BK619.out 2).trans rfl⟩ (fun hHeld => ?_)
 generalize w17.drew = w18 at BK609 BK619 HI0 HK HB hHeld ⊢
 refine pure_ (i := 0) (N := some 10) (v := ?_) (a' := ?_) (bb 7 1) rfl rfl (by kernel_rfl) (fun _ _ _ h => h) (Or.inl ⟨by rfl, ?_⟩) ?_ ?_
 rotate_left
 ·intro w'
  go_simp
  with_reducible rfl
 rotate_left
 ·simp only [Act.put, List.setIfInBounds_toArray, List.set_cons_zero, List.set_cons_succ, i64_w, i32_w]
  rfl
 refine pure_ (i := 2) (N := some 12) (v := ?_) (a' := ?_) (bb 7 5) rfl rfl (by kernel_rfl) (fun _ _ _ h => h) (Or.inl ⟨by rfl, ?_⟩) ?_ ?_
 rotate_left
 ·intro w'
  go_simp
  with_reducible rfl
 rotate_left
 ·simp only [Act.put, List.setIfInBounds_toArray, List.set_cons_zero, List.set_cons_succ, i64_w, i32_w]
  rfl
 refine take_ (i := 1) (N := some 11) (v := ?_) (a' := ?_) (bb 7 7) rfl rfl (by kernel_rfl) (fun _ _ _ h => h) (Or.inl ⟨by rfl, ?_⟩) hHeld ?_ ?_
 rotate_left
 ·rintro w' ⟨s0, s1, s2⟩
  go_simp
  with_reducible rfl
 rotate_left
 ·simp only [Act.put, List.setIfInBounds_toArray, List.set_cons_zero, List.set_cons_succ, i64_w, i32_w]
  rfl
 refine one_ (i := 3) (N := some 13) (bb 7 15) rfl rfl (by kernel_rfl) (by decide) (fun K hK => ?_)
 refine goes_ Try.func87 (by kernel_rfl) rfl #[.pointer (some ⟨g, 0, none⟩), .int .i64 60] (by rfl) rfl rfl (by (try simp only [List.map_toArray, List.map_cons, List.map_nil]); first | done | rfl | (simp only [List.length_drop, List.length_take]; rfl)) ?_
 with_reducible refine (spec_l1Cur_pick.calls g s0_0 t617 t618 60 t620 t621 t622 w0 _ ?side1 ?side2 A4.out).mono ?_
 (case side1 => exact IsS106.q HI0)
 (case side2 => exact hbI_ HB (IsS106.ge HI0.out))
 rintro e w19 ⟨rfl, hi, hb, hk⟩
 refine ⟨_, rfl, ?_⟩
 replace BK609 := Aside0.mk (KeepBut.blk hk (kp_ BK609) NB609_0.out (by simp))
 replace BK619 := Aside0.mk (KeepBut.blk hk (kp_ BK619) NB619_0.out (by simp))
 replace HK := Aside0.mk (KeepBut.trans (hk_ HK) hk (.inl rfl))
 replace HB := Aside0.mk (hb)
 replace HI0 := Aside0.mk (hi)
 refine hK.out _ _ ⟨(blk_cell BK619.out 0).trans rfl, (blk_cell BK619.out 1).trans rfl, (blk_cell BK619.out 2).trans rfl⟩ (fun hHeld => ?_)
 clear hK K
 refine nm_ (some 13) (h := ?_)
 refine pure_ (i := 4) (N := some 14) (v := ?_) (a' := ?_) (bb 7 31) rfl rfl (by kernel_rfl) (fun _ _ _ h => h) (Or.inl ⟨by rfl, ?_⟩) ?_ ?_
 rotate_left
 ·intro w'
  go_simp
  with_reducible rfl
 rotate_left
 ·simp only [Act.put, List.setIfInBounds_toArray, List.set_cons_zero, List.set_cons_succ, i64_w, i32_w]
  rfl
 refine pure_ (i := 5) (N := some 15) (v := ?_) (a' := ?_) (bb 7 63) rfl rfl (by kernel_rfl) (fun _ _ _ h => h) (Or.inl ⟨by rfl, ?_⟩) ?_ ?_
 rotate_left
 ·intro w'
  go_simp
  with_reducible rfl
 rotate_left
 ·simp only [Act.put, List.setIfInBounds_toArray, List.set_cons_zero, List.set_cons_succ, i64_w, i32_w]
  rfl
 refine last_ (i := 6) (N := none) (bb 7 127) rfl rfl (by kernel_rfl) (by decide) (fun K hK => ?_)
 have hs20 : w19.cell? ⟨gb619, 1, none⟩ = some (.int .i64 0) := (blk_cell BK619.out 1).trans rfl
 have hfs20 := blk_frozen BK619.out 1
 have hns20_0 := NB609_619.out
 have hms20_0 := NB619_609.out
 refine skip_ (w1 := ?_) (by rfl) rfl ?_ ?_
 rotate_left
 ·go_simp
  rfl
 refine hK.out _ _ ?_
 clear hK K
 refine done_ (by kernel_rfl) ?_
 go_upto_if 17 with (first | ((with_reducible refine gate_callee (f := 88) rfl ?_); refine gl_ (some 17) Try.func88 #[.pointer (some ⟨g, 0, none⟩), .int .i64 2] rfl rfl rfl ?_; (with_reducible refine (spec_l1Cur_one.calls g s0_0 t621 t622 2 t623 t624 t625 w0 _ ?side1 ?side2 A5.out).mono ?_); (case side1 => exact IsS106.q HI0); (case side2 => exact hbI_ HB (IsS106.ge HI0.out)); rintro e w21 ⟨rfl, hi, hb, hk⟩; refine ⟨_, rfl, ?_⟩; replace BK609 := Aside0.mk (KeepBut.blk hk (g' := gb609) (o := .cells #[.int .i64 0, .int .i64 0, .int .i64 0] 29 (0, 0)) (kf_ BK609 NB609_619) NB609_0.out (by simp)); replace BK619 := Aside0.mk (KeepBut.blk hk (g' := gb619) (o := .cells #[.int .i64 t613, .int .i64 (wrap64 (t613 * t620)), .int .i64 t616] 29 (0, 0)) (kpq_ (kputs BK619 [(1, _)])) NB619_0.out (by simp)); replace HK := Aside0.mk (KeepBut.trans (hk_ HK) hk (.inl rfl)); replace HB := Aside0.mk (hb); replace HI0 := Aside0.mk (hi)))
 (try simp only [Act.put, List.setIfInBounds_toArray, List.set_cons_zero, List.set_cons_succ])
 go_cut [] (fun wc => ∃ (kq : Nat) (x1001_5 : Int) (x1002_5 : Int) (x620001_5 : Int), Aside0 (spec_l1Cur_piece.j0 kq s0_0 x1001_5 x1002_5 t613 x620001_5 t616 = some (r1, r2, r3, r4, r5)) ∧ Aside0 (kq ≤ k) ∧ Aside0 (wc.heap[gb609]? = some (.cells #[.int .i64 0, .int .i64 0, .int .i64 0] 29 (0, 0))) ∧ Aside0 (wc.heap[gb619]? = some (.cells #[.int .i64 t613, .int .i64 x620001_5, .int .i64 t616] 29 (0, 0))) ∧ Aside0 (IsS106 w0 wc g s0_0 x1001_5 x1002_5) ∧ Aside0 (KeepBut w wc g none) ∧ Aside0 (Below w0.heap.size w0 wc))
 case first =>
  have H := HC6.out
  clear HC6
  by_cases c22 : t623 = true
  case neg => replace c22 := Bool.eq_false_iff.mpr c22; subst c22; rw [if_neg (show ¬ (false = true) by decide)] at H; have H' := Aside0.mk H; clear H; go_wp2; go_meet; (case rel => exact ⟨_, (t624), (t625), (wrap64 (t613 * t620)), H', ⟨by first | omega | exact Nat.le_refl _⟩, ⟨kp_ BK609⟩, ⟨kp_ BK619⟩, ⟨IsS106.q HI0⟩, ⟨hk_ HK⟩, ⟨hbI_ HB (IsS106.ge HI0.out)⟩⟩)
  subst c22
  rw [if_pos rfl] at H
  replace H := Option.bind_eq_some_iff.mp H
  obtain ⟨t626, A230, H⟩ := H
  try dsimp only at H
  have A23 := Aside0.mk A230
  clear A230
  replace H := Option.bind_eq_some_iff.mp H
  obtain ⟨t627, A240, H⟩ := H
  try dsimp only at H
  have A24 := Aside0.mk A240
  clear A240
  replace H := Option.bind_eq_some_iff.mp H
  obtain ⟨⟨t628, t629, t630⟩, A250, H⟩ := H
  try dsimp only at H
  have A25 := Aside0.mk A250
  clear A250
  have H' := Aside0.mk H
  clear H
  have := NB619_609.out
  have := NB609_619.out
  have := NB619_0.out
  have := NB0_619.out
  obtain ⟨hcz28_0, hcz28_1, hcz28_2, hfz28_0, hfz28_1, hfz28_2⟩ := bx3 BK619
  go_wp2_with (first | ((with_reducible refine gate_callee (f := 95) rfl ?_); refine gl_ (some 23) Try.func95 #[.int .i64 60000, .int .i64 (wrap64 ((wrap64 (1000 * t613)) + 1))] rfl rfl rfl ?_; (with_reducible refine (spec_l1Least.calls 60000 (wrap64 ((wrap64 (1000 * t613)) + 1)) t626 _ A23.out).mono ?_); rintro e w' ⟨rfl, ⟨nd, rfl⟩⟩; refine ⟨_, rfl, ?_⟩; (try (rw [drewN_self w21]; generalize hq_ : World.drewN w21 _ = w21; have n0_ : Aside0 (w21.heap[gb609]? = some (.cells #[.int .i64 0, .int .i64 0, .int .i64 0] 29 (0, 0))) := ⟨by rw [← hq_]; exact (kp_ BK609)⟩; have n1_ : Aside0 (w21.heap[gb619]? = some (.cells #[.int .i64 t613, .int .i64 (wrap64 (t613 * t620)), .int .i64 t616] 29 (0, 0))) := ⟨by rw [← hq_]; exact (kp_ BK619)⟩; have n2_ : Aside0 (IsS106 w0 w21 g s0_0 t624 t625) := ⟨by rw [← hq_]; exact (IsS106.q HI0)⟩; have n3_ : Aside0 (KeepBut w w21 g none) := ⟨by rw [← hq_]; exact (hk_ HK)⟩; have n4_ : Aside0 (Below w0.heap.size w0 w21) := ⟨by rw [← hq_]; exact (hbI_ HB (IsS106.ge HI0.out))⟩; clear BK609 BK619 HI0 HK HB hq_; have BK609 := n0_; have BK619 := n1_; have HI0 := n2_; have HK := n3_; have HB := n4_; clear n0_ n1_ n2_ n3_ n4_))) | ((with_reducible refine gate_callee (f := 118) rfl ?_); refine gl_ (some 24) Try.func118 #[.int .i64 1, .int .i64 t626] rfl rfl rfl ?_; (with_reducible refine (spec_l1Most.calls 1 t626 t627 _ A24.out).mono ?_); rintro e w' ⟨rfl, ⟨nd, rfl⟩⟩; refine ⟨_, rfl, ?_⟩; (try (rw [drewN_self w21]; generalize hq_ : World.drewN w21 _ = w21; have n0_ : Aside0 (w21.heap[gb609]? = some (.cells #[.int .i64 0, .int .i64 0, .int .i64 0] 29 (0, 0))) := ⟨by rw [← hq_]; exact (kp_ BK609)⟩; have n1_ : Aside0 (w21.heap[gb619]? = some (.cells #[.int .i64 t613, .int .i64 (wrap64 (t613 * t620)), .int .i64 t616] 29 (0, 0))) := ⟨by rw [← hq_]; exact (kp_ BK619)⟩; have n2_ : Aside0 (IsS106 w0 w21 g s0_0 t624 t625) := ⟨by rw [← hq_]; exact (IsS106.q HI0)⟩; have n3_ : Aside0 (KeepBut w w21 g none) := ⟨by rw [← hq_]; exact (hk_ HK)⟩; have n4_ : Aside0 (Below w0.heap.size w0 w21) := ⟨by rw [← hq_]; exact (hbI_ HB (IsS106.ge HI0.out))⟩; clear BK609 BK619 HI0 HK HB hq_; have BK609 := n0_; have BK619 := n1_; have HI0 := n2_; have HK := n3_; have HB := n4_; clear n0_ n1_ n2_ n3_ n4_))) | ((with_reducible refine gate_callee (f := 87) rfl ?_); refine gl_ (some 25) Try.func87 #[.pointer (some ⟨g, 0, none⟩), .int .i64 t627] rfl rfl rfl ?_; (with_reducible refine (spec_l1Cur_pick.calls g s0_0 t624 t625 t627 t628 t629 t630 w0 _ ?side1 ?side2 A25.out).mono ?_); (case side1 => exact IsS106.q HI0); (case side2 => exact hbI_ HB (IsS106.ge HI0.out)); rintro e w29 ⟨rfl, hi, hb, hk⟩; refine ⟨_, rfl, ?_⟩; replace BK609 := kk_ BK609 hk NB609_0; replace BK619 := kk_ BK619 hk NB619_0; replace HK := Aside0.mk (KeepBut.trans (hk_ HK) hk (.inl rfl)); replace HB := Aside0.mk (hb); replace HI0 := Aside0.mk (hi); obtain ⟨hcz30_0, hcz30_1, hcz30_2, hfz30_0, hfz30_1, hfz30_2⟩ := bx3 BK619))
  go_meet
  case rel => exact ⟨_, (t629), (t630), (t628), H', ⟨by first | omega | exact Nat.le_refl _⟩, ⟨kf_ BK609 NB609_619⟩, ⟨kpq_ (kputs BK619 [(1, _)])⟩, ⟨IsS106.q HI0⟩, ⟨hk_ HK⟩, ⟨hbI_ HB (IsS106.ge HI0.out)⟩⟩
 clear HC6
 obtain ⟨kq, x1001_5, x1002_5, x620001_5, HA, HJ5, BK609, BK619, HI0, HK, HB⟩ := hcut
 cases kq with
 | zero => exact absurd HA.out (by simp [spec_l1Cur_piece.j0])
 | succ kj5 => ?_
 have H := HA.out
 clear HA
 simp only [spec_l1Cur_piece.j0] at H
 replace H := Option.bind_eq_some_iff.mp H
 obtain ⟨⟨t631, t632, t633⟩, A310, H⟩ := H
 try dsimp only at H
 have A31 := Aside0.mk A310
 clear A310
 by_cases c32 : t631 = 0
 ·rw [if_pos c32] at H
  have c32b0 : (t631 == 0) = true := beq_iff_eq.mpr c32
  have c32b1 : (t631 != 0) = false := bne_eq_false_iff_eq.mpr c32
  clear c32
  obtain ⟨y634, hy634⟩ : ∃ y_ : List Int, y_ = (([(-1), 10001] : List Int)) := ⟨_, rfl⟩
  (try with_reducible replace H := (Option.bind_some _ _).symm.trans H); (try dsimp only at H); (try rw [← hy634] at H)
  have Ny634 := Aside0.mk hy634
  clear hy634
  replace H := Option.bind_eq_some_iff.mp H
  obtain ⟨⟨t637, t638, t639⟩, A330, H⟩ := H
  try dsimp only at H
  have A33 := Aside0.mk A330
  clear A330
  simp only [Option.some.injEq, Prod.mk.injEq] at H
  obtain ⟨rfl, rfl, rfl, rfl, rfl⟩ := H
  go_wp2_with (first | ((with_reducible refine gate_callee (f := 87) rfl ?_); refine gl_ (some 28) Try.func87 #[.pointer (some ⟨g, 0, none⟩), .int .i64 24] rfl rfl rfl ?_; (with_reducible refine (spec_l1Cur_pick.calls g s0_0 x1001_5 x1002_5 24 t631 t632 t633 w0 _ ?side1 ?side2 A31.out).mono ?_); (case side1 => exact IsS106.q HI0); (case side2 => exact hbI_ HB (IsS106.ge HI0.out)); rintro e w34 ⟨rfl, hi, hb, hk⟩; refine ⟨_, rfl, ?_⟩; replace BK609 := kk_ BK609 hk NB609_0; replace BK619 := kk_ BK619 hk NB619_0; replace HK := Aside0.mk (KeepBut.trans (hk_ HK) hk (.inl rfl)); replace HB := Aside0.mk (hb); replace HI0 := Aside0.mk (hi)) | ((with_reducible refine gate_dst (N := 32) rfl ?_); refine Kd.R_lit (Kd.int .i64) _ 3 ?hg (N := 32) ?hd (xs := ([(-1), 10001] : List Int)) (inner := [.int .i64 (-1), .int .i64 10001]) (ok := fun _ => True) (okp := fun _ => True) ?hr ?hp (fun _ hk => hk) trivial (Below.refl _ _) (Nat.le_refl _) (by simp) ?_; (case hd => rfl); (case hg => rfl); (case hr => first | (go_simp; done) | (go_simp; rfl)); (case hp => exact (Reps.one (show Kd.M (Kd.int .i64) _ _ _ (-1) [.int .i64 (-1)] from rfl) (Reps.one (show Kd.M (Kd.int .i64) _ _ _ 10001 [.int .i64 10001] from rfl) (Reps.none _ _)))); intro v635 w35 ho36 hb hg_ hnew_; clear hg_ hnew_; (first | rw [← Ny634.out] at ho36 | (simp only [Int.reduceToNat] at ho36; rw [← Ny634.out] at ho36)); have HO636 := Aside0.mk (Kd.R_lower ho36 (keep_size (hk_ HK))); replace BK609 := kb_ BK609 hb; replace BK619 := kb_ BK619 hb; replace HK := hkb_ HK hb; replace HB := Aside0.mk (below_step (hbI_ HB (IsS106.ge HI0.out)) hb); replace HI0 := IsS106.b HI0 hb; clear hb ho36; obtain ⟨Ao37, co37, eo37⟩ := Kd.R_slice HO636.out; subst eo37) | ((with_reducible refine gate_callee (f := 89) rfl ?_); refine gl_ (some 33) Try.func89 #[.pointer (some ⟨g, 0, none⟩), .slice Ao37 y634.length co37] rfl rfl rfl ?_; (with_reducible refine (spec_l1Cur_among.calls g s0_0 t632 t633 _ _ y634 t637 t638 t639 w0 _ ?side1 ?side2 ?side3 ?side4 ?side5 A33.out).mono ?_); (case side1 => exact IsS106.q HI0); (case side2 => exact hbI_ HB (IsS106.ge HI0.out)); (case side3 => exact Kd.C_o HO636); (case side4 => exact (Kd.R_reads' HO636.out).2.1); (case side5 => exact far_slice (IsS106.own_ne HI0.out HO636.out (by decide))); rintro e w38 ⟨rfl, hi, hb, hk⟩; refine ⟨_, rfl, ?_⟩; replace BK609 := Aside0.mk (KeepBut.blk hk (kp_ BK609) NB609_0.out (by simp)); replace BK619 := Aside0.mk (KeepBut.blk hk (kp_ BK619) NB619_0.out (by simp)); replace HO636 := IsS106.rk HI0 HO636 hk; replace HK := Aside0.mk (KeepBut.trans (hk_ HK) hk (.inl rfl)); replace HB := Aside0.mk (hb); replace HI0 := Aside0.mk (hi); have := NB619_609.out; have := NB609_619.out; have := NB619_0.out; have := NB0_619.out; obtain ⟨hcz41_0, hcz41_1, hcz41_2, hfz41_0, hfz41_1, hfz41_2⟩ := bx3 BK619; have := NB609_0.out; have := NB0_609.out; obtain ⟨hcz43_0, hcz43_1, hcz43_2, hfz43_0, hfz43_1, hfz43_2⟩ := bx3 BK609))
  refine bodyPost_ret (results_cell_row rfl _ _ gb609 29 #[.int .i64 t637, .int .i64 x620001_5, .int .i64 t616] (0, 0) _ rfl (kq_ (h := bp_ (h := bp_ (h := bp_ (h := bf_ (hn := NB609_619) (h := BK609.out)))))) Try.underlying29 rfl (by kernel_rfl)) rfl ?_
  exact ⟨by first | rfl | (simp [errW_none, errW_some] <;> rfl) | (simp [*, errW_none, errW_some] <;> rfl), IsS106.q HI0, hbI_ HB (IsS106.ge HI0.out), hk_ HK⟩
 rw [if_neg c32] at H
 have c32b0 : (t631 == 0) = false := beq_eq_false_iff_ne.mpr c32
 have c32b1 : (t631 != 0) = true := bne_iff_ne.mpr c32
 by_cases c44 : t631 = 1
 ·rw [if_pos c44] at H
  have c44b0 : (t631 == 1) = true := beq_iff_eq.mpr c44
  have c44b1 : (t631 != 1) = false := bne_eq_false_iff_eq.mpr c44
  clear c44
  obtain ⟨y640, hy640⟩ : ∃ y_ : List Int, y_ = (([(-1), wrap64 (1000 * t613), wrap64 ((wrap64 (1000 * t613)) + 1)] : List Int)) := ⟨_, rfl⟩
  (try with_reducible replace H := (Option.bind_some _ _).symm.trans H); (try dsimp only at H); (try rw [← hy640] at H)
  have Ny640 := Aside0.mk hy640
  clear hy640
  replace H := Option.bind_eq_some_iff.mp H
  obtain ⟨⟨t643, t644, t645⟩, A450, H⟩ := H
  try dsimp only at H
  have A45 := Aside0.mk A450
  clear A450
  simp only [Option.some.injEq, Prod.mk.injEq] at H
  obtain ⟨rfl, rfl, rfl, rfl, rfl⟩ := H
  go_wp2_with (first | ((with_reducible refine gate_callee (f := 87) rfl ?_); refine gl_ (some 28) Try.func87 #[.pointer (some ⟨g, 0, none⟩), .int .i64 24] rfl rfl rfl ?_; (with_reducible refine (spec_l1Cur_pick.calls g s0_0 x1001_5 x1002_5 24 t631 t632 t633 w0 _ ?side1 ?side2 A31.out).mono ?_); (case side1 => exact IsS106.q HI0); (case side2 => exact hbI_ HB (IsS106.ge HI0.out)); rintro e w46 ⟨rfl, hi, hb, hk⟩; refine ⟨_, rfl, ?_⟩; replace BK609 := kk_ BK609 hk NB609_0; replace BK619 := kk_ BK619 hk NB619_0; replace HK := Aside0.mk (KeepBut.trans (hk_ HK) hk (.inl rfl)); replace HB := Aside0.mk (hb); replace HI0 := Aside0.mk (hi); have := NB619_609.out; have := NB609_619.out; have := NB619_0.out; have := NB0_619.out; obtain ⟨hcz49_0, hcz49_1, hcz49_2, hfz49_0, hfz49_1, hfz49_2⟩ := bx3 BK619) | ((with_reducible refine gate_dst (N := 45) rfl ?_); refine Kd.R_lit (Kd.int .i64) _ 3 ?hg (N := 45) ?hd (xs := ([(-1), wrap64 (1000 * t613), wrap64 ((wrap64 (1000 * t613)) + 1)] : List Int)) (inner := [.int .i64 (-1), .int .i64 (wrap64 (1000 * t613)), .int .i64 (wrap64 ((wrap64 (1000 * t613)) + 1))]) (ok := fun _ => True) (okp := fun _ => True) ?hr ?hp (fun _ hk => hk) trivial (Below.refl _ _) (Nat.le_refl _) (by simp) ?_; (case hd => rfl); (case hg => rfl); (case hr => first | (go_simp; done) | (go_simp; rfl)); (case hp => exact (Reps.one (show Kd.M (Kd.int .i64) _ _ _ (-1) [.int .i64 (-1)] from rfl) (Reps.one (show Kd.M (Kd.int .i64) _ _ _ (wrap64 (1000 * t613)) [.int .i64 (wrap64 (1000 * t613))] from rfl) (Reps.one (show Kd.M (Kd.int .i64) _ _ _ (wrap64 ((wrap64 (1000 * t613)) + 1)) [.int .i64 (wrap64 ((wrap64 (1000 * t613)) + 1))] from rfl) (Reps.none _ _))))); intro v641 w50 ho51 hb hg_ hnew_; clear hg_ hnew_; (first | rw [← Ny640.out] at ho51 | (simp only [Int.reduceToNat] at ho51; rw [← Ny640.out] at ho51)); have HO642 := Aside0.mk (Kd.R_lower ho51 (keep_size (hk_ HK))); replace BK609 := kb_ BK609 hb; replace BK619 := kb_ BK619 hb; replace HK := hkb_ HK hb; replace HB := Aside0.mk (below_step (hbI_ HB (IsS106.ge HI0.out)) hb); replace HI0 := IsS106.b HI0 hb; clear hb ho51; obtain ⟨Ao52, co52, eo52⟩ := Kd.R_slice HO642.out; subst eo52) | ((with_reducible refine gate_callee (f := 89) rfl ?_); refine gl_ (some 46) Try.func89 #[.pointer (some ⟨g, 0, none⟩), .slice Ao52 y640.length co52] rfl rfl rfl ?_; (with_reducible refine (spec_l1Cur_among.calls g s0_0 t632 t633 _ _ y640 t643 t644 t645 w0 _ ?side1 ?side2 ?side3 ?side4 ?side5 A45.out).mono ?_); (case side1 => exact IsS106.q HI0); (case side2 => exact hbI_ HB (IsS106.ge HI0.out)); (case side3 => exact Kd.C_o HO642); (case side4 => exact (Kd.R_reads' HO642.out).2.1); (case side5 => exact far_slice (IsS106.own_ne HI0.out HO642.out (by decide))); rintro e w53 ⟨rfl, hi, hb, hk⟩; refine ⟨_, rfl, ?_⟩; replace BK609 := Aside0.mk (KeepBut.blk hk (kp_ BK609) NB609_0.out (by simp)); replace BK619 := Aside0.mk (KeepBut.blk hk (kp_ BK619) NB619_0.out (by simp)); replace HO642 := IsS106.rk HI0 HO642 hk; replace HK := Aside0.mk (KeepBut.trans (hk_ HK) hk (.inl rfl)); replace HB := Aside0.mk (hb); replace HI0 := Aside0.mk (hi); obtain ⟨hcz54_0, hcz54_1, hcz54_2, hfz54_0, hfz54_1, hfz54_2⟩ := bx3 BK619; have := NB609_0.out; have := NB0_609.out; obtain ⟨hcz56_0, hcz56_1, hcz56_2, hfz56_0, hfz56_1, hfz56_2⟩ := bx3 BK609))
  refine bodyPost_ret (results_cell_row rfl _ _ gb609 29 #[.int .i64 t613, .int .i64 t643, .int .i64 t616] (0, 0) _ rfl (kq_ (h := bp_ (h := bp_ (h := bp_ (h := bf_ (hn := NB609_619) (h := BK609.out)))))) Try.underlying29 rfl (by kernel_rfl)) rfl ?_
  exact ⟨by first | rfl | (simp [errW_none, errW_some] <;> rfl) | (simp [*, errW_none, errW_some] <;> rfl), IsS106.q HI0, hbI_ HB (IsS106.ge HI0.out), hk_ HK⟩
 rw [if_neg c44] at H
 have c44b0 : (t631 == 1) = false := beq_eq_false_iff_ne.mpr c44
 have c44b1 : (t631 != 1) = true := bne_iff_ne.mpr c44
 by_cases c57 : t631 = 2
 ·rw [if_pos c57] at H
  have c57b0 : (t631 == 2) = true := beq_iff_eq.mpr c57
  have c57b1 : (t631 != 2) = false := bne_eq_false_iff_eq.mpr c57
  clear c57
  obtain ⟨y646, hy646⟩ : ∃ y_ : List Int, y_ = (([(-1), 4, 5] : List Int)) := ⟨_, rfl⟩
  (try with_reducible replace H := (Option.bind_some _ _).symm.trans H); (try dsimp only at H); (try rw [← hy646] at H)
  have Ny646 := Aside0.mk hy646
  clear hy646
  replace H := Option.bind_eq_some_iff.mp H
  obtain ⟨⟨t649, t650, t651⟩, A580, H⟩ := H
  try dsimp only at H
  have A58 := Aside0.mk A580
  clear A580
  simp only [Option.some.injEq, Prod.mk.injEq] at H
  obtain ⟨rfl, rfl, rfl, rfl, rfl⟩ := H
  go_wp2_with (first | ((with_reducible refine gate_callee (f := 87) rfl ?_); refine gl_ (some 28) Try.func87 #[.pointer (some ⟨g, 0, none⟩), .int .i64 24] rfl rfl rfl ?_; (with_reducible refine (spec_l1Cur_pick.calls g s0_0 x1001_5 x1002_5 24 t631 t632 t633 w0 _ ?side1 ?side2 A31.out).mono ?_); (case side1 => exact IsS106.q HI0); (case side2 => exact hbI_ HB (IsS106.ge HI0.out)); rintro e w59 ⟨rfl, hi, hb, hk⟩; refine ⟨_, rfl, ?_⟩; replace BK609 := kk_ BK609 hk NB609_0; replace BK619 := kk_ BK619 hk NB619_0; replace HK := Aside0.mk (KeepBut.trans (hk_ HK) hk (.inl rfl)); replace HB := Aside0.mk (hb); replace HI0 := Aside0.mk (hi)) | ((with_reducible refine gate_dst (N := 51) rfl ?_); refine Kd.R_lit (Kd.int .i64) _ 3 ?hg (N := 51) ?hd (xs := ([(-1), 4, 5] : List Int)) (inner := [.int .i64 (-1), .int .i64 4, .int .i64 5]) (ok := fun _ => True) (okp := fun _ => True) ?hr ?hp (fun _ hk => hk) trivial (Below.refl _ _) (Nat.le_refl _) (by simp) ?_; (case hd => rfl); (case hg => rfl); (case hr => first | (go_simp; done) | (go_simp; rfl)); (case hp => exact (Reps.one (show Kd.M (Kd.int .i64) _ _ _ (-1) [.int .i64 (-1)] from rfl) (Reps.one (show Kd.M (Kd.int .i64) _ _ _ 4 [.int .i64 4] from rfl) (Reps.one (show Kd.M (Kd.int .i64) _ _ _ 5 [.int .i64 5] from rfl) (Reps.none _ _))))); intro v647 w60 ho61 hb hg_ hnew_; clear hg_ hnew_; (first | rw [← Ny646.out] at ho61 | (simp only [Int.reduceToNat] at ho61; rw [← Ny646.out] at ho61)); have HO648 := Aside0.mk (Kd.R_lower ho61 (keep_size (hk_ HK))); replace BK609 := kb_ BK609 hb; replace BK619 := kb_ BK619 hb; replace HK := hkb_ HK hb; replace HB := Aside0.mk (below_step (hbI_ HB (IsS106.ge HI0.out)) hb); replace HI0 := IsS106.b HI0 hb; clear hb ho61; obtain ⟨Ao62, co62, eo62⟩ := Kd.R_slice HO648.out; subst eo62) | ((with_reducible refine gate_callee (f := 89) rfl ?_); refine gl_ (some 52) Try.func89 #[.pointer (some ⟨g, 0, none⟩), .slice Ao62 y646.length co62] rfl rfl rfl ?_; (with_reducible refine (spec_l1Cur_among.calls g s0_0 t632 t633 _ _ y646 t649 t650 t651 w0 _ ?side1 ?side2 ?side3 ?side4 ?side5 A58.out).mono ?_); (case side1 => exact IsS106.q HI0); (case side2 => exact hbI_ HB (IsS106.ge HI0.out)); (case side3 => exact Kd.C_o HO648); (case side4 => exact (Kd.R_reads' HO648.out).2.1); (case side5 => exact far_slice (IsS106.own_ne HI0.out HO648.out (by decide))); rintro e w63 ⟨rfl, hi, hb, hk⟩; refine ⟨_, rfl, ?_⟩; replace BK609 := Aside0.mk (KeepBut.blk hk (kp_ BK609) NB609_0.out (by simp)); replace BK619 := Aside0.mk (KeepBut.blk hk (kp_ BK619) NB619_0.out (by simp)); replace HO648 := IsS106.rk HI0 HO648 hk; replace HK := Aside0.mk (KeepBut.trans (hk_ HK) hk (.inl rfl)); replace HB := Aside0.mk (hb); replace HI0 := Aside0.mk (hi); have := NB619_609.out; have := NB609_619.out; have := NB619_0.out; have := NB0_619.out; obtain ⟨hcz66_0, hcz66_1, hcz66_2, hfz66_0, hfz66_1, hfz66_2⟩ := bx3 BK619; have := NB609_0.out; have := NB0_609.out; obtain ⟨hcz68_0, hcz68_1, hcz68_2, hfz68_0, hfz68_1, hfz68_2⟩ := bx3 BK609))
  refine bodyPost_ret (results_cell_row rfl _ _ gb609 29 #[.int .i64 t613, .int .i64 x620001_5, .int .i64 t649] (0, 0) _ rfl (kq_ (h := bp_ (h := bp_ (h := bp_ (h := bf_ (hn := NB609_619) (h := BK609.out)))))) Try.underlying29 rfl (by kernel_rfl)) rfl ?_
  exact ⟨by first | rfl | (simp [errW_none, errW_some] <;> rfl) | (simp [*, errW_none, errW_some] <;> rfl), IsS106.q HI0, hbI_ HB (IsS106.ge HI0.out), hk_ HK⟩
 rw [if_neg c57] at H
 have c57b0 : (t631 == 2) = false := beq_eq_false_iff_ne.mpr c57
 have c57b1 : (t631 != 2) = true := bne_iff_ne.mpr c57
 simp only [Option.some.injEq, Prod.mk.injEq] at H
 obtain ⟨rfl, rfl, rfl, rfl, rfl⟩ := H
 go_wp2_with (first | ((with_reducible refine gate_callee (f := 87) rfl ?_); refine gl_ (some 28) Try.func87 #[.pointer (some ⟨g, 0, none⟩), .int .i64 24] rfl rfl rfl ?_; (with_reducible refine (spec_l1Cur_pick.calls g s0_0 x1001_5 x1002_5 24 t631 t632 t633 w0 _ ?side1 ?side2 A31.out).mono ?_); (case side1 => exact IsS106.q HI0); (case side2 => exact hbI_ HB (IsS106.ge HI0.out)); rintro e w69 ⟨rfl, hi, hb, hk⟩; refine ⟨_, rfl, ?_⟩; replace BK609 := kk_ BK609 hk NB609_0; replace BK619 := kk_ BK619 hk NB619_0; replace HK := Aside0.mk (KeepBut.trans (hk_ HK) hk (.inl rfl)); replace HB := Aside0.mk (hb); replace HI0 := Aside0.mk (hi); have := NB619_609.out; have := NB609_619.out; have := NB619_0.out; have := NB0_619.out; obtain ⟨hcz72_0, hcz72_1, hcz72_2, hfz72_0, hfz72_1, hfz72_2⟩ := bx3 BK619; have := NB609_0.out; have := NB0_609.out; obtain ⟨hcz74_0, hcz74_1, hcz74_2, hfz74_0, hfz74_1, hfz74_2⟩ := bx3 BK609))
 refine bodyPost_ret (results_cell_row rfl _ _ gb609 29 #[.int .i64 t613, .int .i64 x620001_5, .int .i64 t616] (0, 0) _ rfl (kpq_ (kputs BK609 [(0, _), (1, _), (2, _)])) Try.underlying29 rfl (by kernel_rfl)) rfl ?_
 exact ⟨by first | rfl | (simp [errW_none, errW_some] <;> rfl) | (simp [*, errW_none, errW_some] <;> rfl), IsS106.q HI0, hbI_ HB (IsS106.ge HI0.out), hk_ HK⟩

end Go.Proofs.Ytceajigggcihnaa.PFnCoarse
