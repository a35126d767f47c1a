-- Laid for this claim by wip/tools/print2.sh, a changed copy of the kit's print (wip/tools/patch_print.py): not by print.sh. Parted by wip/fix/split.py and part.py.
import Derived.Test.YtceajigggcihnaaPFnCoarsex23
namespace Go.Proofs.Ytceajigggcihnaa.PFnCoarse
open Go.RowKit Go.Proofs.YtceajigggcihnaaW.PrintWords Go.Proofs.YtceajigggcihnaaW.PrintLast Go.Proofs.YtceajigggcihnaaW.PrintMore
attribute [local go_sem] max2_int min2_int max_two min_two max_three min_three max_four min_four
set_option linter.unusedVariables false
set_option linter.unusedSimpArgs false

attribute [local go_sem high] eqA29
set_option maxHeartbeats 60000000 in
set_option maxRecDepth 100000 in
theorem laws_FnCoarse.rest3 : laws_FnCoarse.top3.1 := by
 intro dm_; unhygienic intros; have hu34 := Try.underlying34; have hu32 := Try.underlying32; have hu29 := Try.underlying29
 clear HC308
 obtain ⟨kq, HA, HJ307, HO_745003, HO_745004, HO_745005, HO_760003, HO_760004, HO_760005, HO_775003, HO_775004, HO_775005, BK744, BK759, BK774, HB⟩ := hcut
 cases kq with
 | zero => exact absurd HA.out (by simp [laws_FnCoarse.j4])
 | succ kj307 => ?_
 have H := HA.out
 clear HA
 simp only [laws_FnCoarse.j4] at H
 by_cases c318 : t758 = true
 case neg => replace c318 := Bool.eq_false_iff.mpr c318; subst c318; rw [if_neg (show ¬ (false = true) by decide)] at H; obtain rfl := Option.some.inj H; go_wp2; go_ret; exact ad_ (hb_ HB)
 subst c318
 rw [if_pos rfl] at H
 have H' := Aside0.mk H
 clear H
 have := NB744_759.out
 have := NB759_744.out
 have := NB744_774.out
 have := NB774_744.out
 obtain ⟨hcz321_0, hcz321_1, hcz321_2, hcz321_3, hcz321_4, hcz321_5, hfz321_0, hfz321_1, hfz321_2, hfz321_3, hfz321_4, hfz321_5⟩ := bx6 BK744
 go_wp2
 go_loopg [40, 266] kj307 (fun kq v40 v266 w' => ∃ (x40_4 : List Int) (x266_4 : Int), v266 = .int .i64 x266_4 ∧ Aside0 (laws_FnCoarse.l2 kq t772 x40_4 (t735.length : Int) x266_4 t732 t733 t734 t735 t738 t741 t745 t746 t747 t748 t751 t754 t760 t761 t762 t763 t766 t769 = some r) ∧ Aside0 (kq ≤ kj307) ∧ Aside0 (Kd.R (Kd.int .i64) 3 w' w.heap.size (fun _ => True) v40 x40_4) ∧ Aside0 (Kd.R (Kd.int .i64) 3 w' w.heap.size (fun k_ => some k_ ≠ (v40 : Value).ownBlock) (.slice Ao22 t735.length co22) t735) ∧ Aside0 (Kd.R (Kd.int .i64) 3 w' w.heap.size (fun k_ => some k_ ≠ (v40 : Value).ownBlock) (.slice Ao23 t738.length co23) t738) ∧ Aside0 (Kd.R (Kd.int .i64) 3 w' w.heap.size (fun k_ => some k_ ≠ (v40 : Value).ownBlock) (.slice Ao24 t741.length co24) t741) ∧ Aside0 (Kd.R (Kd.int .i64) 3 w' w.heap.size (fun k_ => some k_ ≠ (v40 : Value).ownBlock) (.slice Ao29 t748.length co29) t748) ∧ Aside0 (Kd.R (Kd.int .i64) 3 w' w.heap.size (fun k_ => some k_ ≠ (v40 : Value).ownBlock) (.slice Ao30 t751.length co30) t751) ∧ Aside0 (Kd.R (Kd.int .i64) 3 w' w.heap.size (fun k_ => some k_ ≠ (v40 : Value).ownBlock) (.slice Ao31 t754.length co31) t754) ∧ Aside0 (Kd.R (Kd.int .i64) 3 w' w.heap.size (fun k_ => some k_ ≠ (v40 : Value).ownBlock) (.slice Ao38 t763.length co38) t763) ∧ Aside0 (Kd.R (Kd.int .i64) 3 w' w.heap.size (fun k_ => some k_ ≠ (v40 : Value).ownBlock) (.slice Ao39 t766.length co39) t766) ∧ Aside0 (Kd.R (Kd.int .i64) 3 w' w.heap.size (fun k_ => some k_ ≠ (v40 : Value).ownBlock) (.slice Ao40 t769.length co40) t769) ∧ Aside0 (w'.heap[gb744]? = some (.cells #[.int .i64 t732, .int .i64 t733, .int .i64 t734, (.slice Ao22 t735.length co22), (.slice Ao23 t738.length co23), (.slice Ao24 t741.length co24)] 34 (0, 0))) ∧ Aside0 (w'.heap[gb759]? = some (.cells #[.int .i64 t745, .int .i64 t746, .int .i64 t747, (.slice Ao29 t748.length co29), (.slice Ao30 t751.length co30), (.slice Ao31 t754.length co31)] 34 (0, 0))) ∧ Aside0 (w'.heap[gb774]? = some (.cells #[.int .i64 t760, .int .i64 t761, .int .i64 t762, (.slice Ao38 t763.length co38), (.slice Ao39 t766.length co39), (.slice Ao40 t769.length co40)] 34 (0, 0))) ∧ Aside0 (Below w.heap.size w w'))
 case atStart => exact ⟨(([] : List Int)), (0), (by first | rfl | (simp; done) | (simp [*]; done)), H', ⟨Nat.le_refl _⟩, ⟨by first | exact Kd.R_nil _ _ _ _ _ | exact Kd.N_nil _ _ _ _ _ | exact Kd.V_nil _ _ _ _ _ | exact Kd.Q_nil _ _ _ _ _ | exact Kd.S_nil _ _ _ _ _⟩, ⟨Kd.R_pp (Kd.R_mono HO_745003.out (fun _ _ => by simp [Value.ownBlock]))⟩, ⟨Kd.R_pp (Kd.R_mono HO_745004.out (fun _ _ => by simp [Value.ownBlock]))⟩, ⟨Kd.R_pp (Kd.R_mono HO_745005.out (fun _ _ => by simp [Value.ownBlock]))⟩, ⟨Kd.R_pp (Kd.R_mono HO_760003.out (fun _ _ => by simp [Value.ownBlock]))⟩, ⟨Kd.R_pp (Kd.R_mono HO_760004.out (fun _ _ => by simp [Value.ownBlock]))⟩, ⟨Kd.R_pp (Kd.R_mono HO_760005.out (fun _ _ => by simp [Value.ownBlock]))⟩, ⟨Kd.R_pp (Kd.R_mono HO_775003.out (fun _ _ => by simp [Value.ownBlock]))⟩, ⟨Kd.R_pp (Kd.R_mono HO_775004.out (fun _ _ => by simp [Value.ownBlock]))⟩, ⟨Kd.R_pp (Kd.R_mono HO_775005.out (fun _ _ => by simp [Value.ownBlock]))⟩, ⟨kp_ BK744⟩, ⟨kp_ BK759⟩, ⟨kp_ BK774⟩, ⟨hb_ HB⟩⟩
 clear H'
 obtain ⟨x40_4, x266_4, rfl, HA, HK4, HO_40, HO_745003, HO_745004, HO_745005, HO_760003, HO_760004, HO_760005, HO_775003, HO_775004, HO_775005, BK744, BK759, BK774, HB⟩ := hrel
 cases gk with
 | zero => exact absurd HA.out (by simp [laws_FnCoarse.l2])
 | succ k4 => ?_
 refine ?z13_
 let rec p13_ : type_of% ?z13_ := by(
 have H := HA.out
 clear HA
 simp only [laws_FnCoarse.l2] at H
 by_cases c322 : x266_4 < (t735.length : Int)
 ·rw [if_pos c322] at H
  have c322b0 := decide_eq_true c322
  clear c322
  by_cases c323 : x40_4.length < 17592186044416
  case neg => rw [if_neg c323] at H; exact absurd H (by simp)
  rw [if_pos c323] at H
  have LMc323 := Aside0.mk c323
  clear c323
  obtain ⟨y826, hy826⟩ : ∃ y_ : List Int, y_ = (x40_4 ++ [x266_4]) := ⟨_, rfl⟩
  (try with_reducible replace H := (Option.bind_some _ _).symm.trans H); (try dsimp only at H); (try rw [← hy826] at H)
  have Ny826 := Aside0.mk hy826
  clear hy826
  have H' := Aside0.mk H
  clear H
  go_wp2_with (first | ((with_reducible refine gate_builtin (b := .append) (xs := #[.tmp 269, .tmp 271]) rfl ?_); at_builtin; refine Kd.R_append (Kd.int .i64) (w0 := w) w.heap.size rfl (.tmp 269) (.tmp 271) 24 3 (.int .i64 0) 8 rfl Try.underlying24 info3 rfl (by decide) (by omega) u40 x40_4 x266_4 [.int .i64 x266_4] (fun _ => True) (fun _ => False) rfl rfl ?aP (fun _ hk => hk.elim) ?aF ?aO ?aB ?aS ?aL ?_; (case aP => exact rfl); (case aB => exact (hb_ HB)); (case aF => exact (fun _ _ => trivial)); (case aO => exact (Kd.R_p HO_40)); (case aS => exact (below_size (hb_ HB))); (case aL => have := LMc323.out; omega); intro v827 w324 ho hb hg hat; rw [← Ny826.out] at ho; have HO828 := Aside0.mk (ho); replace HO_745003 := Aside0.mk (Kd.R_after (ok := (fun _ => True)) (rm_ (h := HO_745003.out)) hg hat); replace HO_745004 := Aside0.mk (Kd.R_after (ok := (fun _ => True)) (rm_ (h := HO_745004.out)) hg hat); replace HO_745005 := Aside0.mk (Kd.R_after (ok := (fun _ => True)) (rm_ (h := HO_745005.out)) hg hat); replace HO_760003 := Aside0.mk (Kd.R_after (ok := (fun _ => True)) (rm_ (h := HO_760003.out)) hg hat); replace HO_760004 := Aside0.mk (Kd.R_after (ok := (fun _ => True)) (rm_ (h := HO_760004.out)) hg hat); replace HO_760005 := Aside0.mk (Kd.R_after (ok := (fun _ => True)) (rm_ (h := HO_760005.out)) hg hat); replace HO_775003 := Aside0.mk (Kd.R_after (ok := (fun _ => True)) (rm_ (h := HO_775003.out)) hg hat); replace HO_775004 := Aside0.mk (Kd.R_after (ok := (fun _ => True)) (rm_ (h := HO_775004.out)) hg hat); replace HO_775005 := Aside0.mk (Kd.R_after (ok := (fun _ => True)) (rm_ (h := HO_775005.out)) hg hat); replace BK744 := Aside0.mk (blk_grown (kp_ BK744) hg (Kd.R_ne HO_40.out BK744.out (by decide))); replace BK759 := Aside0.mk (blk_grown (kp_ BK759) hg (Kd.R_ne HO_40.out BK759.out (by decide))); replace BK774 := Aside0.mk (blk_grown (kp_ BK774) hg (Kd.R_ne HO_40.out BK774.out (by decide))); replace HB := Aside0.mk (hb); clear HO_40; clear ho hb hg hat))
  go_roundg k4
  case measure => have := HJ17.out; have := HJ213.out; have := HJ307.out; have := HK4.out; omega
  case rel => exact ⟨(y826), (wrap64 (x266_4 + 1)), (by first | rfl | (simp; done) | (simp [*]; done)), H', ⟨by have := HJ17.out; have := HJ213.out; have := HJ307.out; have := HK4.out; omega⟩, ⟨Kd.R_p HO828⟩, ⟨rm_ (h := HO_745003.out)⟩, ⟨rm_ (h := HO_745004.out)⟩, ⟨rm_ (h := HO_745005.out)⟩, ⟨rm_ (h := HO_760003.out)⟩, ⟨rm_ (h := HO_760004.out)⟩, ⟨rm_ (h := HO_760005.out)⟩, ⟨rm_ (h := HO_775003.out)⟩, ⟨rm_ (h := HO_775004.out)⟩, ⟨rm_ (h := HO_775005.out)⟩, ⟨kp_ BK744⟩, ⟨kp_ BK759⟩, ⟨kp_ BK774⟩, ⟨hb_ HB⟩⟩
 ·rw [if_neg c322] at H
  have c322b0 := decide_eq_false c322
  clear c322
  replace H := Option.bind_eq_some_iff.mp H
  obtain ⟨⟨t829, t830, t831⟩, A3250, H⟩ := H
  try dsimp only at H
  have A325 := Aside0.mk A3250
  clear A3250
  by_cases c326 : 0 ≤ (t763.length : Int)
  case neg => rw [if_neg c326] at H; exact absurd H (by simp)
  rw [if_pos c326] at H
  have c326b0 := eq_true c326
  have c326b1 := decide_eq_true c326
  clear c326
  by_cases c327 : (t763.length : Int) ≤ (x40_4.length : Int)
  case neg => rw [if_neg c327] at H; exact absurd H (by simp)
  rw [if_pos c327] at H
  have c327b0 := eq_true c327
  have c327b1 := decide_eq_true c327
  clear c327
  obtain ⟨y832, hy832⟩ : ∃ y_ : List Int, y_ = (x40_4.take ((t763.length : Int) : Int).toNat) := ⟨_, rfl⟩
  (try with_reducible replace H := (Option.bind_some _ _).symm.trans H); (try dsimp only at H); (try rw [← hy832] at H)
  have Ny832 := Aside0.mk hy832
  clear hy832
  replace H := Option.bind_eq_some_iff.mp H
  obtain ⟨⟨t836, t837, t838⟩, A3280, H⟩ := H
  try dsimp only at H
  have A328 := Aside0.mk A3280
  clear A3280
  by_cases c329 : t831 = true
  ·subst c329
   rw [if_pos rfl] at H
   by_cases c330 : t838 = true
   ·subst c330
    rw [if_pos rfl] at H
    by_cases c331 : t829 = t836
    ·rw [if_pos c331] at H
     have c331b0 : (t829 == t836) = true := beq_iff_eq.mpr c331
     have c331b1 : (t829 != t836) = false := bne_eq_false_iff_eq.mpr c331
     clear c331
     by_cases c332 : (wrap64 (t837 - t830)) = t772
     ·refine ?z14_
      let rec p14_ : type_of% ?z14_ := by(
      rw [if_pos c332] at H
      have c332b0 : ((wrap64 (t837 - t830)) == t772) = true := beq_iff_eq.mpr c332
      have c332b1 : ((wrap64 (t837 - t830)) != t772) = false := bne_eq_false_iff_eq.mpr c332
      clear c332
      replace H := Option.bind_eq_some_iff.mp H
      obtain ⟨t839, A3330, H⟩ := H
      try dsimp only at H
      have A333 := Aside0.mk A3330
      clear A3330
      obtain rfl := Option.some.inj H
      have := NB744_759.out
      have := NB759_744.out
      have := NB744_774.out
      have := NB774_744.out
      obtain ⟨hcz336_0, hcz336_1, hcz336_2, hcz336_3, hcz336_4, hcz336_5, hfz336_0, hfz336_1, hfz336_2, hfz336_3, hfz336_4, hfz336_5⟩ := bx6 BK744
      obtain ⟨Ao337, co337, eo337⟩ := Kd.R_slice HO_40.out
      subst eo337
      try go_wp2_with (first | ((with_reducible refine gate_callee (f := 58) rfl ?_); refine gl_ (some 277) Try.func58 #[.agg #[.int .i64 t732, .int .i64 t733, .int .i64 t734, .slice Ao22 t735.length co22, .slice Ao23 t738.length co23, .slice Ao24 t741.length co24], .slice Ao337 x40_4.length co337] rfl rfl rfl ?_; (with_reducible refine (impl_SumsOf.calls k4 t732 t733 t734 _ _ t735 _ _ t738 _ _ t741 _ _ x40_4 t829 t830 true _ ?side1 ?side2 ?side3 ?side4 ?side5 ?side6 ?side7 ?side8 A325.out).mono ?_); (case side1 => exact Kd.C_o HO_745003); (case side2 => exact (Kd.R_reads' HO_745003.out).2.1); (case side3 => exact Kd.C_o HO_745004); (case side4 => exact (Kd.R_reads' HO_745004.out).2.1); (case side5 => exact Kd.C_o HO_745005); (case side6 => exact (Kd.R_reads' HO_745005.out).2.1); (case side7 => exact Kd.C_o HO_40); (case side8 => exact (Kd.R_reads' HO_40.out).2.1); rintro e w338 ⟨rfl, hb⟩; refine ⟨_, rfl, ?_⟩; replace HO_40 := Kd.R_b HO_40 hb; replace HO_745003 := Kd.R_b HO_745003 hb; replace HO_745004 := Kd.R_b HO_745004 hb; replace HO_745005 := Kd.R_b HO_745005 hb; replace HO_760003 := Kd.R_b HO_760003 hb; replace HO_760004 := Kd.R_b HO_760004 hb; replace HO_760005 := Kd.R_b HO_760005 hb; replace HO_775003 := Kd.R_b HO_775003 hb; replace HO_775004 := Kd.R_b HO_775004 hb; replace HO_775005 := Kd.R_b HO_775005 hb; replace BK744 := kb_ BK744 hb; replace BK759 := kb_ BK759 hb; replace BK774 := kb_ BK774 hb; replace HB := hbs_ HB hb; try clear BK744; try clear GW744; try clear GE744; try clear NB744_759; try clear NB759_744; try clear NB744_774; try clear NB774_744))
      replace HO_40 := Aside0.mk (Kd.R_drew HO_40.out)
      replace HO_745003 := Aside0.mk (Kd.R_drew HO_745003.out)
      replace HO_745004 := Aside0.mk (Kd.R_drew HO_745004.out)
      replace HO_745005 := Aside0.mk (Kd.R_drew HO_745005.out)
      replace HO_760003 := Aside0.mk (Kd.R_drew HO_760003.out)
      replace HO_760004 := Aside0.mk (Kd.R_drew HO_760004.out)
      replace HO_760005 := Aside0.mk (Kd.R_drew HO_760005.out)
      replace HO_775003 := Aside0.mk (Kd.R_drew HO_775003.out)
      replace HO_775004 := Aside0.mk (Kd.R_drew HO_775004.out)
      replace HO_775005 := Aside0.mk (Kd.R_drew HO_775005.out)
      replace BK759 := Aside0.mk (blk_drew BK759.out)
      replace BK774 := Aside0.mk (blk_drew BK774.out)
      replace HB := Aside0.mk (below_drew1 HB.out)
      have q340 : ((t763.length : Int) : Int) ≤ ((x40_4.length : Int) : Int) := of_decide_eq_true (by first | (with_reducible assumption) | assumption)
      obtain ⟨i0340, hi0340, _, hsz340, _⟩ := info_parts info3
      have hroom340 : x40_4.length ≤ co337 := (Kd.R_reads' HO_40.out).2.1
      have hC340 : Kd.C (Kd.int .i64) _ Ao337 x40_4.length x40_4 := (Kd.R_reads' HO_40.out).2.2
      have hcut340 := cut_to (P := Try.prog) 24 3 .i64 Try.underlying24 hi0340 Ao337 x40_4.length co337 (t763.length : Int) (of_decide_eq_true (by first | (with_reducible assumption) | assumption)) q340 hroom340
      have hr340 := Kd.C_take (m := ((t763.length : Int) : Int).toNat) hC340 (by omega)
      have hy340 : y832.length = ((t763.length : Int) : Int).toNat := (by rw [Ny832.out, List.length_take]; omega)
      rw [← Ny832.out] at hr340
      rw [← hy340] at hcut340
      have HR835 := Aside0.mk hr340
      have HC835 := Aside0.mk (show y832.length ≤ co337 from by omega)
      clear hr340 hC340 hroom340 hi0340 hsz340
      have KY340 := Aside0.mk hy340
      clear hy340
      have KL340 := Aside0.mk (show ((t763.length : Int) : Int).toNat ≤ x40_4.length from by omega)
      replace q340 := eq_true q340
      refine start_ (n := 14) (S := fun w' => w'.cell? ⟨gb759, 0, none⟩ = some (.int .i64 t745) ∧ w'.cell? ⟨gb759, 1, none⟩ = some (.int .i64 t746) ∧ w'.cell? ⟨gb759, 2, none⟩ = some (.int .i64 t747) ∧ w'.cell? ⟨gb759, 3, none⟩ = some (.slice Ao29 t748.length co29) ∧ w'.cell? ⟨gb759, 4, none⟩ = some (.slice Ao30 t751.length co30) ∧ w'.cell? ⟨gb759, 5, none⟩ = some (.slice Ao31 t754.length co31) ∧ w'.cell? ⟨gb774, 0, none⟩ = some (.int .i64 t760) ∧ w'.cell? ⟨gb774, 1, none⟩ = some (.int .i64 t761) ∧ w'.cell? ⟨gb774, 2, none⟩ = some (.int .i64 t762) ∧ w'.cell? ⟨gb774, 3, none⟩ = some (.slice Ao38 t763.length co38) ∧ w'.cell? ⟨gb774, 4, none⟩ = some (.slice Ao39 t766.length co39) ∧ w'.cell? ⟨gb774, 5, none⟩ = some (.slice Ao40 t769.length co40)) (ds := []) (bb 14 0) (by kernel_rfl) rfl rfl ⟨(blk_cell BK759.out 0).trans rfl, (blk_cell BK759.out 1).trans rfl, (blk_cell BK759.out 2).trans rfl, (blk_cell BK759.out 3).trans rfl, (blk_cell BK759.out 4).trans rfl, (blk_cell BK759.out 5).trans rfl, (blk_cell BK774.out 0).trans rfl, (blk_cell BK774.out 1).trans rfl, (blk_cell BK774.out 2).trans rfl, (blk_cell BK774.out 3).trans rfl, (blk_cell BK774.out 4).trans rfl, (blk_cell BK774.out 5).trans rfl⟩ (fun hHeld => ?_); refine with_tabW laws_FnCoarse.tab49 laws_FnCoarse.bits49 (fun HT_ HW_ => ?_)
      generalize w338.drew = w339 at HO_40 HO_745003 HO_745004 HO_745005 HO_760003 HO_760004 HO_760005 HO_775003 HO_775004 HO_775005 BK759 BK774 HB HR835 hHeld ⊢
      refine pl_ HT_ 1 (some 283) (bb 14 2) (h := ?_)
      refine pl_ HT_ 2 (some 284) (bb 14 6) (h := ?_)
      refine tk_ HT_ HW_ hHeld 0 (some 282) (bb 14 7) (h := ?_)
      refine tk_ HT_ HW_ hHeld 3 (some 285) (bb 14 15) (h := ?_)
      refine pl_ HT_ 4 (some 286) (bb 14 31) (h := ?_)
      refine pl_ HT_ 5 (some 287) (bb 14 63) (h := ?_)
      refine one_ (i := 6) (N := some 288) (bb 14 127) rfl rfl (one_of HT_.out (by kernel_rfl)) (by decide) (fun K hK => ?_)
      refine goes_ Try.func58 (by kernel_rfl) rfl #[.agg #[.int .i64 t745, .int .i64 t746, .int .i64 t747, .slice Ao29 t748.length co29, .slice Ao30 t751.length co30, .slice Ao31 t754.length co31], .slice Ao337 y832.length co337] (by rfl) rfl rfl (by (try simp only [List.map_toArray, List.map_cons, List.map_nil]); first | done | rfl | (simp only [List.length_drop, List.length_take]; rfl)) ?_
      with_reducible refine (impl_SumsOf.calls k4 t745 t746 t747 _ _ t748 _ _ t751 _ _ t754 _ _ y832 t836 t837 true _ ?side1 ?side2 ?side3 ?side4 ?side5 ?side6 ?side7 ?side8 A328.out).mono ?_
      (case side1 => exact Kd.C_o HO_760003)
      (case side2 => exact (Kd.R_reads' HO_760003.out).2.1)
      (case side3 => exact Kd.C_o HO_760004)
      (case side4 => exact (Kd.R_reads' HO_760004.out).2.1)
      (case side5 => exact Kd.C_o HO_760005)
      (case side6 => exact (Kd.R_reads' HO_760005.out).2.1)
      (case side7 => repeat (first | exact (by repeat (first | (with_reducible exact HR835.out) | (with_reducible refine Kd.C_alloc ?_ _) | (with_reducible refine Kd.C_drewN ?_ _) | (with_reducible refine Kd.C_drew ?_) | exact HR835.out)) | (with_reducible refine Kd.C_alloc ?_ _) | (with_reducible refine Kd.C_drewN ?_ _) | (with_reducible refine Kd.C_drew ?_)))
      (case side8 => exact HC835.out)
      rintro e w341 ⟨rfl, hb⟩
      refine ⟨_, rfl, ?_⟩
      replace HO_40 := Aside0.mk (Kd.R_below (Kd.R_p HO_40) hb)
      replace HO_745003 := Aside0.mk (Kd.R_below (Kd.R_p HO_745003) hb)
      replace HO_745004 := Aside0.mk (Kd.R_below (Kd.R_p HO_745004) hb)
      replace HO_745005 := Aside0.mk (Kd.R_below (Kd.R_p HO_745005) hb)
      replace HO_760003 := Aside0.mk (Kd.R_below (Kd.R_p HO_760003) hb)
      replace HO_760004 := Aside0.mk (Kd.R_below (Kd.R_p HO_760004) hb)
      replace HO_760005 := Aside0.mk (Kd.R_below (Kd.R_p HO_760005) hb)
      replace HO_775003 := Aside0.mk (Kd.R_below (Kd.R_p HO_775003) hb)
      replace HO_775004 := Aside0.mk (Kd.R_below (Kd.R_p HO_775004) hb)
      replace HO_775005 := Aside0.mk (Kd.R_below (Kd.R_p HO_775005) hb)
      replace BK759 := Aside0.mk (blk_below (kp_ BK759) hb)
      replace BK774 := Aside0.mk (blk_below (kp_ BK774) hb)
      replace HR835 := Aside0.mk (Kd.C_below (by repeat (first | (with_reducible exact HR835.out) | (with_reducible refine Kd.C_alloc ?_ _) | (with_reducible refine Kd.C_drewN ?_ _) | (with_reducible refine Kd.C_drew ?_) | exact HR835.out)) hb)
      replace HB := Aside0.mk (below_step (hb_ HB) hb)
      refine hK.out _ _ ⟨(blk_cell BK759.out 0).trans rfl, (blk_cell BK759.out 1).trans rfl, (blk_cell BK759.out 2).trans rfl, (blk_cell BK759.out 3).trans rfl, (blk_cell BK759.out 4).trans rfl, (blk_cell BK759.out 5).trans rfl, (blk_cell BK774.out 0).trans rfl, (blk_cell BK774.out 1).trans rfl, (blk_cell BK774.out 2).trans rfl, (blk_cell BK774.out 3).trans rfl, (blk_cell BK774.out 4).trans rfl, (blk_cell BK774.out 5).trans rfl⟩ (fun hHeld => ?_)
      clear hK K
      refine nm_ (some 288) (h := ?_)
      refine pl_ HT_ 7 (some 281) (bb 14 255) (h := ?_)
      refine pl_ HT_ 8 (some 289) (bb 14 511) (h := ?_)
      refine pl_ HT_ 9 (some 290) (bb 14 1023) (h := ?_)
      refine pl_ HT_ 10 (some 291) (bb 14 2047) (h := ?_)
      refine pl_ HT_ 11 (some 45) (bb 14 4095) (h := ?_)
      refine pl_ HT_ 12 (some 46) (bb 14 8191) (h := ?_)
      refine pl_ HT_ 13 (some 47) (bb 14 16383) (h := ?_)
      refine done_ (done_of HT_.out (by kernel_rfl)) ?_
      have := NB759_774.out
      have := NB774_759.out
      obtain ⟨hcz343_0, hcz343_1, hcz343_2, hcz343_3, hcz343_4, hcz343_5, hfz343_0, hfz343_1, hfz343_2, hfz343_3, hfz343_4, hfz343_5⟩ := bx6 BK759
      try go_wp2_with (first | (go_at_call 59; (with_reducible refine (impl_IsModel.calls k4 t745 t746 t747 _ _ t748 _ _ t751 _ _ t754 t839 _ ?side1 ?side2 ?side3 ?side4 ?side5 ?side6 A333.out).mono ?_); (case side1 => exact Kd.C_o HO_760003); (case side2 => exact (Kd.R_reads' HO_760003.out).2.1); (case side3 => exact Kd.C_o HO_760004); (case side4 => exact (Kd.R_reads' HO_760004.out).2.1); (case side5 => exact Kd.C_o HO_760005); (case side6 => exact (Kd.R_reads' HO_760005.out).2.1); rintro e w344 ⟨rfl, hb⟩; replace HO_40 := Aside0.mk (Kd.R_below (Kd.R_p HO_40) hb); replace HO_745003 := Aside0.mk (Kd.R_below (Kd.R_p HO_745003) hb); replace HO_745004 := Aside0.mk (Kd.R_below (Kd.R_p HO_745004) hb); replace HO_745005 := Aside0.mk (Kd.R_below (Kd.R_p HO_745005) hb); replace HO_760003 := Aside0.mk (Kd.R_below (Kd.R_p HO_760003) hb); replace HO_760004 := Aside0.mk (Kd.R_below (Kd.R_p HO_760004) hb); replace HO_760005 := Aside0.mk (Kd.R_below (Kd.R_p HO_760005) hb); replace HO_775003 := Aside0.mk (Kd.R_below (Kd.R_p HO_775003) hb); replace HO_775004 := Aside0.mk (Kd.R_below (Kd.R_p HO_775004) hb); replace HO_775005 := Aside0.mk (Kd.R_below (Kd.R_p HO_775005) hb); replace BK759 := Aside0.mk (blk_below (kp_ BK759) hb); replace HB := Aside0.mk (below_step (hb_ HB) hb)))
      go_ret
      exact ad_ (hb_ HB)
      )
      exact p14_
     refine ?z15_
     let rec p15_ : type_of% ?z15_ := by(
     rw [if_neg c332] at H
     have c332b0 : ((wrap64 (t837 - t830)) == t772) = false := beq_eq_false_iff_ne.mpr c332
     have c332b1 : ((wrap64 (t837 - t830)) != t772) = true := bne_iff_ne.mpr c332
     obtain rfl := Option.some.inj H
     have := NB744_759.out
     have := NB759_744.out
     have := NB744_774.out
     have := NB774_744.out
     obtain ⟨hcz347_0, hcz347_1, hcz347_2, hcz347_3, hcz347_4, hcz347_5, hfz347_0, hfz347_1, hfz347_2, hfz347_3, hfz347_4, hfz347_5⟩ := bx6 BK744
     obtain ⟨Ao348, co348, eo348⟩ := Kd.R_slice HO_40.out
     subst eo348
     try go_wp2_with (first | ((with_reducible refine gate_callee (f := 58) rfl ?_); refine gl_ (some 277) Try.func58 #[.agg #[.int .i64 t732, .int .i64 t733, .int .i64 t734, .slice Ao22 t735.length co22, .slice Ao23 t738.length co23, .slice Ao24 t741.length co24], .slice Ao348 x40_4.length co348] rfl rfl rfl ?_; (with_reducible refine (impl_SumsOf.calls k4 t732 t733 t734 _ _ t735 _ _ t738 _ _ t741 _ _ x40_4 t829 t830 true _ ?side1 ?side2 ?side3 ?side4 ?side5 ?side6 ?side7 ?side8 A325.out).mono ?_); (case side1 => exact Kd.C_o HO_745003); (case side2 => exact (Kd.R_reads' HO_745003.out).2.1); (case side3 => exact Kd.C_o HO_745004); (case side4 => exact (Kd.R_reads' HO_745004.out).2.1); (case side5 => exact Kd.C_o HO_745005); (case side6 => exact (Kd.R_reads' HO_745005.out).2.1); (case side7 => exact Kd.C_o HO_40); (case side8 => exact (Kd.R_reads' HO_40.out).2.1); rintro e w349 ⟨rfl, hb⟩; refine ⟨_, rfl, ?_⟩; replace HO_40 := Kd.R_b HO_40 hb; replace HO_745003 := Kd.R_b HO_745003 hb; replace HO_745004 := Kd.R_b HO_745004 hb; replace HO_745005 := Kd.R_b HO_745005 hb; replace HO_760003 := Kd.R_b HO_760003 hb; replace HO_760004 := Kd.R_b HO_760004 hb; replace HO_760005 := Kd.R_b HO_760005 hb; replace HO_775003 := Kd.R_b HO_775003 hb; replace HO_775004 := Kd.R_b HO_775004 hb; replace HO_775005 := Kd.R_b HO_775005 hb; replace BK744 := kb_ BK744 hb; replace BK759 := kb_ BK759 hb; replace BK774 := kb_ BK774 hb; replace HB := hbs_ HB hb; try clear BK744; try clear GW744; try clear GE744; try clear NB744_759; try clear NB759_744; try clear NB744_774; try clear NB774_744))
     replace HO_40 := Aside0.mk (Kd.R_drew HO_40.out)
     replace HO_745003 := Aside0.mk (Kd.R_drew HO_745003.out)
     replace HO_745004 := Aside0.mk (Kd.R_drew HO_745004.out)
     replace HO_745005 := Aside0.mk (Kd.R_drew HO_745005.out)
     replace HO_760003 := Aside0.mk (Kd.R_drew HO_760003.out)
     replace HO_760004 := Aside0.mk (Kd.R_drew HO_760004.out)
     replace HO_760005 := Aside0.mk (Kd.R_drew HO_760005.out)
     replace HO_775003 := Aside0.mk (Kd.R_drew HO_775003.out)
     replace HO_775004 := Aside0.mk (Kd.R_drew HO_775004.out)
     replace HO_775005 := Aside0.mk (Kd.R_drew HO_775005.out)
     replace BK759 := Aside0.mk (blk_drew BK759.out)
     replace BK774 := Aside0.mk (blk_drew BK774.out)
     replace HB := Aside0.mk (below_drew1 HB.out)
     have q351 : ((t763.length : Int) : Int) ≤ ((x40_4.length : Int) : Int) := of_decide_eq_true (by first | (with_reducible assumption) | assumption)
     obtain ⟨i0351, hi0351, _, hsz351, _⟩ := info_parts info3
     have hroom351 : x40_4.length ≤ co348 := (Kd.R_reads' HO_40.out).2.1
     have hC351 : Kd.C (Kd.int .i64) _ Ao348 x40_4.length x40_4 := (Kd.R_reads' HO_40.out).2.2
     have hcut351 := cut_to (P := Try.prog) 24 3 .i64 Try.underlying24 hi0351 Ao348 x40_4.length co348 (t763.length : Int) (of_decide_eq_true (by first | (with_reducible assumption) | assumption)) q351 hroom351
     have hr351 := Kd.C_take (m := ((t763.length : Int) : Int).toNat) hC351 (by omega)
     have hy351 : y832.length = ((t763.length : Int) : Int).toNat := (by rw [Ny832.out, List.length_take]; omega)
     rw [← Ny832.out] at hr351
     rw [← hy351] at hcut351
     have HR835 := Aside0.mk hr351
     have HC835 := Aside0.mk (show y832.length ≤ co348 from by omega)
     clear hr351 hC351 hroom351 hi0351 hsz351
     have KY351 := Aside0.mk hy351
     clear hy351
     have KL351 := Aside0.mk (show ((t763.length : Int) : Int).toNat ≤ x40_4.length from by omega)
     replace q351 := eq_true q351
     refine start_ (n := 14) (S := fun w' => w'.cell? ⟨gb759, 0, none⟩ = some (.int .i64 t745) ∧ w'.cell? ⟨gb759, 1, none⟩ = some (.int .i64 t746) ∧ w'.cell? ⟨gb759, 2, none⟩ = some (.int .i64 t747) ∧ w'.cell? ⟨gb759, 3, none⟩ = some (.slice Ao29 t748.length co29) ∧ w'.cell? ⟨gb759, 4, none⟩ = some (.slice Ao30 t751.length co30) ∧ w'.cell? ⟨gb759, 5, none⟩ = some (.slice Ao31 t754.length co31) ∧ w'.cell? ⟨gb774, 0, none⟩ = some (.int .i64 t760) ∧ w'.cell? ⟨gb774, 1, none⟩ = some (.int .i64 t761) ∧ w'.cell? ⟨gb774, 2, none⟩ = some (.int .i64 t762) ∧ w'.cell? ⟨gb774, 3, none⟩ = some (.slice Ao38 t763.length co38) ∧ w'.cell? ⟨gb774, 4, none⟩ = some (.slice Ao39 t766.length co39) ∧ w'.cell? ⟨gb774, 5, none⟩ = some (.slice Ao40 t769.length co40)) (ds := []) (bb 14 0) (by kernel_rfl) rfl rfl ⟨(blk_cell BK759.out 0).trans rfl, (blk_cell BK759.out 1).trans rfl, (blk_cell BK759.out 2).trans rfl, (blk_cell BK759.out 3).trans rfl, (blk_cell BK759.out 4).trans rfl, (blk_cell BK759.out 5).trans rfl, (blk_cell BK774.out 0).trans rfl, (blk_cell BK774.out 1).trans rfl, (blk_cell BK774.out 2).trans rfl, (blk_cell BK774.out 3).trans rfl, (blk_cell BK774.out 4).trans rfl, (blk_cell BK774.out 5).trans rfl⟩ (fun hHeld => ?_); refine with_tabW laws_FnCoarse.tab49 laws_FnCoarse.bits49 (fun HT_ HW_ => ?_)
     generalize w349.drew = w350 at HO_40 HO_745003 HO_745004 HO_745005 HO_760003 HO_760004 HO_760005 HO_775003 HO_775004 HO_775005 BK759 BK774 HB HR835 hHeld ⊢
     refine pl_ HT_ 1 (some 283) (bb 14 2) (h := ?_)
     refine pl_ HT_ 2 (some 284) (bb 14 6) (h := ?_)
     refine tk_ HT_ HW_ hHeld 0 (some 282) (bb 14 7) (h := ?_)
     refine tk_ HT_ HW_ hHeld 3 (some 285) (bb 14 15) (h := ?_)
     refine pl_ HT_ 4 (some 286) (bb 14 31) (h := ?_)
     refine pl_ HT_ 5 (some 287) (bb 14 63) (h := ?_)
     refine one_ (i := 6) (N := some 288) (bb 14 127) rfl rfl (one_of HT_.out (by kernel_rfl)) (by decide) (fun K hK => ?_)
     refine goes_ Try.func58 (by kernel_rfl) rfl #[.agg #[.int .i64 t745, .int .i64 t746, .int .i64 t747, .slice Ao29 t748.length co29, .slice Ao30 t751.length co30, .slice Ao31 t754.length co31], .slice Ao348 y832.length co348] (by rfl) rfl rfl (by (try simp only [List.map_toArray, List.map_cons, List.map_nil]); first | done | rfl | (simp only [List.length_drop, List.length_take]; rfl)) ?_
     with_reducible refine (impl_SumsOf.calls k4 t745 t746 t747 _ _ t748 _ _ t751 _ _ t754 _ _ y832 t836 t837 true _ ?side1 ?side2 ?side3 ?side4 ?side5 ?side6 ?side7 ?side8 A328.out).mono ?_
     (case side1 => exact Kd.C_o HO_760003)
     (case side2 => exact (Kd.R_reads' HO_760003.out).2.1)
     (case side3 => exact Kd.C_o HO_760004)
     (case side4 => exact (Kd.R_reads' HO_760004.out).2.1)
     (case side5 => exact Kd.C_o HO_760005)
     (case side6 => exact (Kd.R_reads' HO_760005.out).2.1)
     (case side7 => repeat (first | exact (by repeat (first | (with_reducible exact HR835.out) | (with_reducible refine Kd.C_alloc ?_ _) | (with_reducible refine Kd.C_drewN ?_ _) | (with_reducible refine Kd.C_drew ?_) | exact HR835.out)) | (with_reducible refine Kd.C_alloc ?_ _) | (with_reducible refine Kd.C_drewN ?_ _) | (with_reducible refine Kd.C_drew ?_)))
     (case side8 => exact HC835.out)
     rintro e w352 ⟨rfl, hb⟩
     refine ⟨_, rfl, ?_⟩
     replace HO_40 := Aside0.mk (Kd.R_below (Kd.R_p HO_40) hb)
     replace HO_745003 := Aside0.mk (Kd.R_below (Kd.R_p HO_745003) hb)
     replace HO_745004 := Aside0.mk (Kd.R_below (Kd.R_p HO_745004) hb)
     replace HO_745005 := Aside0.mk (Kd.R_below (Kd.R_p HO_745005) hb)
     replace HO_760003 := Aside0.mk (Kd.R_below (Kd.R_p HO_760003) hb)
     replace HO_760004 := Aside0.mk (Kd.R_below (Kd.R_p HO_760004) hb)
     replace HO_760005 := Aside0.mk (Kd.R_below (Kd.R_p HO_760005) hb)
     replace HO_775003 := Aside0.mk (Kd.R_below (Kd.R_p HO_775003) hb)
     replace HO_775004 := Aside0.mk (Kd.R_below (Kd.R_p HO_775004) hb)
     replace HO_775005 := Aside0.mk (Kd.R_below (Kd.R_p HO_775005) hb)
     replace BK759 := Aside0.mk (blk_below (kp_ BK759) hb)
     replace BK774 := Aside0.mk (blk_below (kp_ BK774) hb)
     replace HR835 := Aside0.mk (Kd.C_below (by repeat (first | (with_reducible exact HR835.out) | (with_reducible refine Kd.C_alloc ?_ _) | (with_reducible refine Kd.C_drewN ?_ _) | (with_reducible refine Kd.C_drew ?_) | exact HR835.out)) hb)
     replace HB := Aside0.mk (below_step (hb_ HB) hb)
     refine hK.out _ _ ⟨(blk_cell BK759.out 0).trans rfl, (blk_cell BK759.out 1).trans rfl, (blk_cell BK759.out 2).trans rfl, (blk_cell BK759.out 3).trans rfl, (blk_cell BK759.out 4).trans rfl, (blk_cell BK759.out 5).trans rfl, (blk_cell BK774.out 0).trans rfl, (blk_cell BK774.out 1).trans rfl, (blk_cell BK774.out 2).trans rfl, (blk_cell BK774.out 3).trans rfl, (blk_cell BK774.out 4).trans rfl, (blk_cell BK774.out 5).trans rfl⟩ (fun hHeld => ?_)
     clear hK K
     refine nm_ (some 288) (h := ?_)
     refine pl_ HT_ 7 (some 281) (bb 14 255) (h := ?_)
     refine pl_ HT_ 8 (some 289) (bb 14 511) (h := ?_)
     refine pl_ HT_ 9 (some 290) (bb 14 1023) (h := ?_)
     refine pl_ HT_ 10 (some 291) (bb 14 2047) (h := ?_)
     refine pl_ HT_ 11 (some 45) (bb 14 4095) (h := ?_)
     refine pl_ HT_ 12 (some 46) (bb 14 8191) (h := ?_)
     refine pl_ HT_ 13 (some 47) (bb 14 16383) (h := ?_)
     refine done_ (done_of HT_.out (by kernel_rfl)) ?_
     try go_wp2
     go_ret
     exact ad_ (hb_ HB)
     )
     exact p15_
    refine ?z16_
    let rec p16_ : type_of% ?z16_ := by(
    rw [if_neg c331] at H
    have c331b0 : (t829 == t836) = false := beq_eq_false_iff_ne.mpr c331
    have c331b1 : (t829 != t836) = true := bne_iff_ne.mpr c331
    obtain rfl := Option.some.inj H
    have := NB744_759.out
    have := NB759_744.out
    have := NB744_774.out
    have := NB774_744.out
    obtain ⟨hcz355_0, hcz355_1, hcz355_2, hcz355_3, hcz355_4, hcz355_5, hfz355_0, hfz355_1, hfz355_2, hfz355_3, hfz355_4, hfz355_5⟩ := bx6 BK744
    obtain ⟨Ao356, co356, eo356⟩ := Kd.R_slice HO_40.out
    subst eo356
    try go_wp2_with (first | ((with_reducible refine gate_callee (f := 58) rfl ?_); refine gl_ (some 277) Try.func58 #[.agg #[.int .i64 t732, .int .i64 t733, .int .i64 t734, .slice Ao22 t735.length co22, .slice Ao23 t738.length co23, .slice Ao24 t741.length co24], .slice Ao356 x40_4.length co356] rfl rfl rfl ?_; (with_reducible refine (impl_SumsOf.calls k4 t732 t733 t734 _ _ t735 _ _ t738 _ _ t741 _ _ x40_4 t829 t830 true _ ?side1 ?side2 ?side3 ?side4 ?side5 ?side6 ?side7 ?side8 A325.out).mono ?_); (case side1 => exact Kd.C_o HO_745003); (case side2 => exact (Kd.R_reads' HO_745003.out).2.1); (case side3 => exact Kd.C_o HO_745004); (case side4 => exact (Kd.R_reads' HO_745004.out).2.1); (case side5 => exact Kd.C_o HO_745005); (case side6 => exact (Kd.R_reads' HO_745005.out).2.1); (case side7 => exact Kd.C_o HO_40); (case side8 => exact (Kd.R_reads' HO_40.out).2.1); rintro e w357 ⟨rfl, hb⟩; refine ⟨_, rfl, ?_⟩; replace HO_40 := Kd.R_b HO_40 hb; replace HO_745003 := Kd.R_b HO_745003 hb; replace HO_745004 := Kd.R_b HO_745004 hb; replace HO_745005 := Kd.R_b HO_745005 hb; replace HO_760003 := Kd.R_b HO_760003 hb; replace HO_760004 := Kd.R_b HO_760004 hb; replace HO_760005 := Kd.R_b HO_760005 hb; replace HO_775003 := Kd.R_b HO_775003 hb; replace HO_775004 := Kd.R_b HO_775004 hb; replace HO_775005 := Kd.R_b HO_775005 hb; replace BK744 := kb_ BK744 hb; replace BK759 := kb_ BK759 hb; replace BK774 := kb_ BK774 hb; replace HB := hbs_ HB hb; try clear BK744; try clear GW744; try clear GE744; try clear NB744_759; try clear NB759_744; try clear NB744_774; try clear NB774_744))
    replace HO_40 := Aside0.mk (Kd.R_drew HO_40.out)
    replace HO_745003 := Aside0.mk (Kd.R_drew HO_745003.out)
    replace HO_745004 := Aside0.mk (Kd.R_drew HO_745004.out)
    replace HO_745005 := Aside0.mk (Kd.R_drew HO_745005.out)
    replace HO_760003 := Aside0.mk (Kd.R_drew HO_760003.out)
    replace HO_760004 := Aside0.mk (Kd.R_drew HO_760004.out)
    replace HO_760005 := Aside0.mk (Kd.R_drew HO_760005.out)
    replace HO_775003 := Aside0.mk (Kd.R_drew HO_775003.out)
    replace HO_775004 := Aside0.mk (Kd.R_drew HO_775004.out)
    replace HO_775005 := Aside0.mk (Kd.R_drew HO_775005.out)
    replace BK759 := Aside0.mk (blk_drew BK759.out)
    replace BK774 := Aside0.mk (blk_drew BK774.out)
    replace HB := Aside0.mk (below_drew1 HB.out)
    have q359 : ((t763.length : Int) : Int) ≤ ((x40_4.length : Int) : Int) := of_decide_eq_true (by first | (with_reducible assumption) | assumption)
    obtain ⟨i0359, hi0359, _, hsz359, _⟩ := info_parts info3
    have hroom359 : x40_4.length ≤ co356 := (Kd.R_reads' HO_40.out).2.1
    have hC359 : Kd.C (Kd.int .i64) _ Ao356 x40_4.length x40_4 := (Kd.R_reads' HO_40.out).2.2
    have hcut359 := cut_to (P := Try.prog) 24 3 .i64 Try.underlying24 hi0359 Ao356 x40_4.length co356 (t763.length : Int) (of_decide_eq_true (by first | (with_reducible assumption) | assumption)) q359 hroom359
    have hr359 := Kd.C_take (m := ((t763.length : Int) : Int).toNat) hC359 (by omega)
    have hy359 : y832.length = ((t763.length : Int) : Int).toNat := (by rw [Ny832.out, List.length_take]; omega)
    rw [← Ny832.out] at hr359
    rw [← hy359] at hcut359
    have HR835 := Aside0.mk hr359
    have HC835 := Aside0.mk (show y832.length ≤ co356 from by omega)
    clear hr359 hC359 hroom359 hi0359 hsz359
    have KY359 := Aside0.mk hy359
    clear hy359
    have KL359 := Aside0.mk (show ((t763.length : Int) : Int).toNat ≤ x40_4.length from by omega)
    replace q359 := eq_true q359
    refine start_ (n := 14) (S := fun w' => w'.cell? ⟨gb759, 0, none⟩ = some (.int .i64 t745) ∧ w'.cell? ⟨gb759, 1, none⟩ = some (.int .i64 t746) ∧ w'.cell? ⟨gb759, 2, none⟩ = some (.int .i64 t747) ∧ w'.cell? ⟨gb759, 3, none⟩ = some (.slice Ao29 t748.length co29) ∧ w'.cell? ⟨gb759, 4, none⟩ = some (.slice Ao30 t751.length co30) ∧ w'.cell? ⟨gb759, 5, none⟩ = some (.slice Ao31 t754.length co31) ∧ w'.cell? ⟨gb774, 0, none⟩ = some (.int .i64 t760) ∧ w'.cell? ⟨gb774, 1, none⟩ = some (.int .i64 t761) ∧ w'.cell? ⟨gb774, 2, none⟩ = some (.int .i64 t762) ∧ w'.cell? ⟨gb774, 3, none⟩ = some (.slice Ao38 t763.length co38) ∧ w'.cell? ⟨gb774, 4, none⟩ = some (.slice Ao39 t766.length co39) ∧ w'.cell? ⟨gb774, 5, none⟩ = some (.slice Ao40 t769.length co40)) (ds := []) (bb 14 0) (by kernel_rfl) rfl rfl ⟨(blk_cell BK759.out 0).trans rfl, (blk_cell BK759.out 1).trans rfl, (blk_cell BK759.out 2).trans rfl, (blk_cell BK759.out 3).trans rfl, (blk_cell BK759.out 4).trans rfl, (blk_cell BK759.out 5).trans rfl, (blk_cell BK774.out 0).trans rfl, (blk_cell BK774.out 1).trans rfl, (blk_cell BK774.out 2).trans rfl, (blk_cell BK774.out 3).trans rfl, (blk_cell BK774.out 4).trans rfl, (blk_cell BK774.out 5).trans rfl⟩ (fun hHeld => ?_); refine with_tabW laws_FnCoarse.tab49 laws_FnCoarse.bits49 (fun HT_ HW_ => ?_)
    generalize w357.drew = w358 at HO_40 HO_745003 HO_745004 HO_745005 HO_760003 HO_760004 HO_760005 HO_775003 HO_775004 HO_775005 BK759 BK774 HB HR835 hHeld ⊢
    refine pl_ HT_ 1 (some 283) (bb 14 2) (h := ?_)
    refine pl_ HT_ 2 (some 284) (bb 14 6) (h := ?_)
    refine tk_ HT_ HW_ hHeld 0 (some 282) (bb 14 7) (h := ?_)
    refine tk_ HT_ HW_ hHeld 3 (some 285) (bb 14 15) (h := ?_)
    refine pl_ HT_ 4 (some 286) (bb 14 31) (h := ?_)
    refine pl_ HT_ 5 (some 287) (bb 14 63) (h := ?_)
    refine one_ (i := 6) (N := some 288) (bb 14 127) rfl rfl (one_of HT_.out (by kernel_rfl)) (by decide) (fun K hK => ?_)
    refine goes_ Try.func58 (by kernel_rfl) rfl #[.agg #[.int .i64 t745, .int .i64 t746, .int .i64 t747, .slice Ao29 t748.length co29, .slice Ao30 t751.length co30, .slice Ao31 t754.length co31], .slice Ao356 y832.length co356] (by rfl) rfl rfl (by (try simp only [List.map_toArray, List.map_cons, List.map_nil]); first | done | rfl | (simp only [List.length_drop, List.length_take]; rfl)) ?_
    with_reducible refine (impl_SumsOf.calls k4 t745 t746 t747 _ _ t748 _ _ t751 _ _ t754 _ _ y832 t836 t837 true _ ?side1 ?side2 ?side3 ?side4 ?side5 ?side6 ?side7 ?side8 A328.out).mono ?_
    (case side1 => exact Kd.C_o HO_760003)
    (case side2 => exact (Kd.R_reads' HO_760003.out).2.1)
    (case side3 => exact Kd.C_o HO_760004)
    (case side4 => exact (Kd.R_reads' HO_760004.out).2.1)
    (case side5 => exact Kd.C_o HO_760005)
    (case side6 => exact (Kd.R_reads' HO_760005.out).2.1)
    (case side7 => repeat (first | exact (by repeat (first | (with_reducible exact HR835.out) | (with_reducible refine Kd.C_alloc ?_ _) | (with_reducible refine Kd.C_drewN ?_ _) | (with_reducible refine Kd.C_drew ?_) | exact HR835.out)) | (with_reducible refine Kd.C_alloc ?_ _) | (with_reducible refine Kd.C_drewN ?_ _) | (with_reducible refine Kd.C_drew ?_)))
    (case side8 => exact HC835.out)
    rintro e w360 ⟨rfl, hb⟩
    refine ⟨_, rfl, ?_⟩
    replace HO_40 := Aside0.mk (Kd.R_below (Kd.R_p HO_40) hb)
    replace HO_745003 := Aside0.mk (Kd.R_below (Kd.R_p HO_745003) hb)
    replace HO_745004 := Aside0.mk (Kd.R_below (Kd.R_p HO_745004) hb)
    replace HO_745005 := Aside0.mk (Kd.R_below (Kd.R_p HO_745005) hb)
    replace HO_760003 := Aside0.mk (Kd.R_below (Kd.R_p HO_760003) hb)
    replace HO_760004 := Aside0.mk (Kd.R_below (Kd.R_p HO_760004) hb)
    replace HO_760005 := Aside0.mk (Kd.R_below (Kd.R_p HO_760005) hb)
    replace HO_775003 := Aside0.mk (Kd.R_below (Kd.R_p HO_775003) hb)
    replace HO_775004 := Aside0.mk (Kd.R_below (Kd.R_p HO_775004) hb)
    replace HO_775005 := Aside0.mk (Kd.R_below (Kd.R_p HO_775005) hb)
    replace BK759 := Aside0.mk (blk_below (kp_ BK759) hb)
    replace BK774 := Aside0.mk (blk_below (kp_ BK774) hb)
    replace HR835 := Aside0.mk (Kd.C_below (by repeat (first | (with_reducible exact HR835.out) | (with_reducible refine Kd.C_alloc ?_ _) | (with_reducible refine Kd.C_drewN ?_ _) | (with_reducible refine Kd.C_drew ?_) | exact HR835.out)) hb)
    replace HB := Aside0.mk (below_step (hb_ HB) hb)
    refine hK.out _ _ ⟨(blk_cell BK759.out 0).trans rfl, (blk_cell BK759.out 1).trans rfl, (blk_cell BK759.out 2).trans rfl, (blk_cell BK759.out 3).trans rfl, (blk_cell BK759.out 4).trans rfl, (blk_cell BK759.out 5).trans rfl, (blk_cell BK774.out 0).trans rfl, (blk_cell BK774.out 1).trans rfl, (blk_cell BK774.out 2).trans rfl, (blk_cell BK774.out 3).trans rfl, (blk_cell BK774.out 4).trans rfl, (blk_cell BK774.out 5).trans rfl⟩ (fun hHeld => ?_)
    clear hK K
    refine nm_ (some 288) (h := ?_)
    refine pl_ HT_ 7 (some 281) (bb 14 255) (h := ?_)
    refine pl_ HT_ 8 (some 289) (bb 14 511) (h := ?_)
    refine pl_ HT_ 9 (some 290) (bb 14 1023) (h := ?_)
    refine pl_ HT_ 10 (some 291) (bb 14 2047) (h := ?_)
    refine pl_ HT_ 11 (some 45) (bb 14 4095) (h := ?_)
    refine pl_ HT_ 12 (some 46) (bb 14 8191) (h := ?_)
    refine pl_ HT_ 13 (some 47) (bb 14 16383) (h := ?_)
    refine done_ (done_of HT_.out (by kernel_rfl)) ?_
    try go_wp2
    go_ret
    exact ad_ (hb_ HB)
    )
    exact p16_
   refine ?z17_
   let rec p17_ : type_of% ?z17_ := by(
   replace c330 := Bool.eq_false_iff.mpr c330
   subst c330
   rw [if_neg (show ¬ (false = true) by decide)] at H
   obtain rfl := Option.some.inj H
   have := NB744_759.out
   have := NB759_744.out
   have := NB744_774.out
   have := NB774_744.out
   obtain ⟨hcz363_0, hcz363_1, hcz363_2, hcz363_3, hcz363_4, hcz363_5, hfz363_0, hfz363_1, hfz363_2, hfz363_3, hfz363_4, hfz363_5⟩ := bx6 BK744
   obtain ⟨Ao364, co364, eo364⟩ := Kd.R_slice HO_40.out
   subst eo364
   try go_wp2_with (first | ((with_reducible refine gate_callee (f := 58) rfl ?_); refine gl_ (some 277) Try.func58 #[.agg #[.int .i64 t732, .int .i64 t733, .int .i64 t734, .slice Ao22 t735.length co22, .slice Ao23 t738.length co23, .slice Ao24 t741.length co24], .slice Ao364 x40_4.length co364] rfl rfl rfl ?_; (with_reducible refine (impl_SumsOf.calls k4 t732 t733 t734 _ _ t735 _ _ t738 _ _ t741 _ _ x40_4 t829 t830 true _ ?side1 ?side2 ?side3 ?side4 ?side5 ?side6 ?side7 ?side8 A325.out).mono ?_); (case side1 => exact Kd.C_o HO_745003); (case side2 => exact (Kd.R_reads' HO_745003.out).2.1); (case side3 => exact Kd.C_o HO_745004); (case side4 => exact (Kd.R_reads' HO_745004.out).2.1); (case side5 => exact Kd.C_o HO_745005); (case side6 => exact (Kd.R_reads' HO_745005.out).2.1); (case side7 => exact Kd.C_o HO_40); (case side8 => exact (Kd.R_reads' HO_40.out).2.1); rintro e w365 ⟨rfl, hb⟩; refine ⟨_, rfl, ?_⟩; replace HO_40 := Kd.R_b HO_40 hb; replace HO_745003 := Kd.R_b HO_745003 hb; replace HO_745004 := Kd.R_b HO_745004 hb; replace HO_745005 := Kd.R_b HO_745005 hb; replace HO_760003 := Kd.R_b HO_760003 hb; replace HO_760004 := Kd.R_b HO_760004 hb; replace HO_760005 := Kd.R_b HO_760005 hb; replace HO_775003 := Kd.R_b HO_775003 hb; replace HO_775004 := Kd.R_b HO_775004 hb; replace HO_775005 := Kd.R_b HO_775005 hb; replace BK744 := kb_ BK744 hb; replace BK759 := kb_ BK759 hb; replace BK774 := kb_ BK774 hb; replace HB := hbs_ HB hb; try clear BK744; try clear GW744; try clear GE744; try clear NB744_759; try clear NB759_744; try clear NB744_774; try clear NB774_744))
   replace HO_40 := Aside0.mk (Kd.R_drew HO_40.out)
   replace HO_745003 := Aside0.mk (Kd.R_drew HO_745003.out)
   replace HO_745004 := Aside0.mk (Kd.R_drew HO_745004.out)
   replace HO_745005 := Aside0.mk (Kd.R_drew HO_745005.out)
   replace HO_760003 := Aside0.mk (Kd.R_drew HO_760003.out)
   replace HO_760004 := Aside0.mk (Kd.R_drew HO_760004.out)
   replace HO_760005 := Aside0.mk (Kd.R_drew HO_760005.out)
   replace HO_775003 := Aside0.mk (Kd.R_drew HO_775003.out)
   replace HO_775004 := Aside0.mk (Kd.R_drew HO_775004.out)
   replace HO_775005 := Aside0.mk (Kd.R_drew HO_775005.out)
   replace BK759 := Aside0.mk (blk_drew BK759.out)
   replace BK774 := Aside0.mk (blk_drew BK774.out)
   replace HB := Aside0.mk (below_drew1 HB.out)
   have q367 : ((t763.length : Int) : Int) ≤ ((x40_4.length : Int) : Int) := of_decide_eq_true (by first | (with_reducible assumption) | assumption)
   obtain ⟨i0367, hi0367, _, hsz367, _⟩ := info_parts info3
   have hroom367 : x40_4.length ≤ co364 := (Kd.R_reads' HO_40.out).2.1
   have hC367 : Kd.C (Kd.int .i64) _ Ao364 x40_4.length x40_4 := (Kd.R_reads' HO_40.out).2.2
   have hcut367 := cut_to (P := Try.prog) 24 3 .i64 Try.underlying24 hi0367 Ao364 x40_4.length co364 (t763.length : Int) (of_decide_eq_true (by first | (with_reducible assumption) | assumption)) q367 hroom367
   have hr367 := Kd.C_take (m := ((t763.length : Int) : Int).toNat) hC367 (by omega)
   have hy367 : y832.length = ((t763.length : Int) : Int).toNat := (by rw [Ny832.out, List.length_take]; omega)
   rw [← Ny832.out] at hr367
   rw [← hy367] at hcut367
   have HR835 := Aside0.mk hr367
   have HC835 := Aside0.mk (show y832.length ≤ co364 from by omega)
   clear hr367 hC367 hroom367 hi0367 hsz367
   have KY367 := Aside0.mk hy367
   clear hy367
   have KL367 := Aside0.mk (show ((t763.length : Int) : Int).toNat ≤ x40_4.length from by omega)
   replace q367 := eq_true q367
   refine start_ (n := 14) (S := fun w' => w'.cell? ⟨gb759, 0, none⟩ = some (.int .i64 t745) ∧ w'.cell? ⟨gb759, 1, none⟩ = some (.int .i64 t746) ∧ w'.cell? ⟨gb759, 2, none⟩ = some (.int .i64 t747) ∧ w'.cell? ⟨gb759, 3, none⟩ = some (.slice Ao29 t748.length co29) ∧ w'.cell? ⟨gb759, 4, none⟩ = some (.slice Ao30 t751.length co30) ∧ w'.cell? ⟨gb759, 5, none⟩ = some (.slice Ao31 t754.length co31) ∧ w'.cell? ⟨gb774, 0, none⟩ = some (.int .i64 t760) ∧ w'.cell? ⟨gb774, 1, none⟩ = some (.int .i64 t761) ∧ w'.cell? ⟨gb774, 2, none⟩ = some (.int .i64 t762) ∧ w'.cell? ⟨gb774, 3, none⟩ = some (.slice Ao38 t763.length co38) ∧ w'.cell? ⟨gb774, 4, none⟩ = some (.slice Ao39 t766.length co39) ∧ w'.cell? ⟨gb774, 5, none⟩ = some (.slice Ao40 t769.length co40)) (ds := []) (bb 14 0) (by kernel_rfl) rfl rfl ⟨(blk_cell BK759.out 0).trans rfl, (blk_cell BK759.out 1).trans rfl, (blk_cell BK759.out 2).trans rfl, (blk_cell BK759.out 3).trans rfl, (blk_cell BK759.out 4).trans rfl, (blk_cell BK759.out 5).trans rfl, (blk_cell BK774.out 0).trans rfl, (blk_cell BK774.out 1).trans rfl, (blk_cell BK774.out 2).trans rfl, (blk_cell BK774.out 3).trans rfl, (blk_cell BK774.out 4).trans rfl, (blk_cell BK774.out 5).trans rfl⟩ (fun hHeld => ?_); refine with_tabW laws_FnCoarse.tab49 laws_FnCoarse.bits49 (fun HT_ HW_ => ?_)
   generalize w365.drew = w366 at HO_40 HO_745003 HO_745004 HO_745005 HO_760003 HO_760004 HO_760005 HO_775003 HO_775004 HO_775005 BK759 BK774 HB HR835 hHeld ⊢
   refine pl_ HT_ 1 (some 283) (bb 14 2) (h := ?_)
   refine pl_ HT_ 2 (some 284) (bb 14 6) (h := ?_)
   refine tk_ HT_ HW_ hHeld 0 (some 282) (bb 14 7) (h := ?_)
   refine tk_ HT_ HW_ hHeld 3 (some 285) (bb 14 15) (h := ?_)
   refine pl_ HT_ 4 (some 286) (bb 14 31) (h := ?_)
   refine pl_ HT_ 5 (some 287) (bb 14 63) (h := ?_)
   refine one_ (i := 6) (N := some 288) (bb 14 127) rfl rfl (one_of HT_.out (by kernel_rfl)) (by decide) (fun K hK => ?_)
   refine goes_ Try.func58 (by kernel_rfl) rfl #[.agg #[.int .i64 t745, .int .i64 t746, .int .i64 t747, .slice Ao29 t748.length co29, .slice Ao30 t751.length co30, .slice Ao31 t754.length co31], .slice Ao364 y832.length co364] (by rfl) rfl rfl (by (try simp only [List.map_toArray, List.map_cons, List.map_nil]); first | done | rfl | (simp only [List.length_drop, List.length_take]; rfl)) ?_
   with_reducible refine (impl_SumsOf.calls k4 t745 t746 t747 _ _ t748 _ _ t751 _ _ t754 _ _ y832 t836 t837 false _ ?side1 ?side2 ?side3 ?side4 ?side5 ?side6 ?side7 ?side8 A328.out).mono ?_
   (case side1 => exact Kd.C_o HO_760003)
   (case side2 => exact (Kd.R_reads' HO_760003.out).2.1)
   (case side3 => exact Kd.C_o HO_760004)
   (case side4 => exact (Kd.R_reads' HO_760004.out).2.1)
   (case side5 => exact Kd.C_o HO_760005)
   (case side6 => exact (Kd.R_reads' HO_760005.out).2.1)
   (case side7 => repeat (first | exact (by repeat (first | (with_reducible exact HR835.out) | (with_reducible refine Kd.C_alloc ?_ _) | (with_reducible refine Kd.C_drewN ?_ _) | (with_reducible refine Kd.C_drew ?_) | exact HR835.out)) | (with_reducible refine Kd.C_alloc ?_ _) | (with_reducible refine Kd.C_drewN ?_ _) | (with_reducible refine Kd.C_drew ?_)))
   (case side8 => exact HC835.out)
   rintro e w368 ⟨rfl, hb⟩
   refine ⟨_, rfl, ?_⟩
   replace HO_40 := Aside0.mk (Kd.R_below (Kd.R_p HO_40) hb)
   replace HO_745003 := Aside0.mk (Kd.R_below (Kd.R_p HO_745003) hb)
   replace HO_745004 := Aside0.mk (Kd.R_below (Kd.R_p HO_745004) hb)
   replace HO_745005 := Aside0.mk (Kd.R_below (Kd.R_p HO_745005) hb)
   replace HO_760003 := Aside0.mk (Kd.R_below (Kd.R_p HO_760003) hb)
   replace HO_760004 := Aside0.mk (Kd.R_below (Kd.R_p HO_760004) hb)
   replace HO_760005 := Aside0.mk (Kd.R_below (Kd.R_p HO_760005) hb)
   replace HO_775003 := Aside0.mk (Kd.R_below (Kd.R_p HO_775003) hb)
   replace HO_775004 := Aside0.mk (Kd.R_below (Kd.R_p HO_775004) hb)
   replace HO_775005 := Aside0.mk (Kd.R_below (Kd.R_p HO_775005) hb)
   replace BK759 := Aside0.mk (blk_below (kp_ BK759) hb)
   replace BK774 := Aside0.mk (blk_below (kp_ BK774) hb)
   replace HR835 := Aside0.mk (Kd.C_below (by repeat (first | (with_reducible exact HR835.out) | (with_reducible refine Kd.C_alloc ?_ _) | (with_reducible refine Kd.C_drewN ?_ _) | (with_reducible refine Kd.C_drew ?_) | exact HR835.out)) hb)
   replace HB := Aside0.mk (below_step (hb_ HB) hb)
   refine hK.out _ _ ⟨(blk_cell BK759.out 0).trans rfl, (blk_cell BK759.out 1).trans rfl, (blk_cell BK759.out 2).trans rfl, (blk_cell BK759.out 3).trans rfl, (blk_cell BK759.out 4).trans rfl, (blk_cell BK759.out 5).trans rfl, (blk_cell BK774.out 0).trans rfl, (blk_cell BK774.out 1).trans rfl, (blk_cell BK774.out 2).trans rfl, (blk_cell BK774.out 3).trans rfl, (blk_cell BK774.out 4).trans rfl, (blk_cell BK774.out 5).trans rfl⟩ (fun hHeld => ?_)
   clear hK K
   refine nm_ (some 288) (h := ?_)
   refine pl_ HT_ 7 (some 281) (bb 14 255) (h := ?_)
   refine pl_ HT_ 8 (some 289) (bb 14 511) (h := ?_)
   refine pl_ HT_ 9 (some 290) (bb 14 1023) (h := ?_)
   refine pl_ HT_ 10 (some 291) (bb 14 2047) (h := ?_)
   refine pl_ HT_ 11 (some 45) (bb 14 4095) (h := ?_)
   refine pl_ HT_ 12 (some 46) (bb 14 8191) (h := ?_)
   refine pl_ HT_ 13 (some 47) (bb 14 16383) (h := ?_)
   refine done_ (done_of HT_.out (by kernel_rfl)) ?_
   try go_wp2
   go_ret
   exact ad_ (hb_ HB)
   )
   exact p17_
  refine ?z18_
  let rec p18_ : type_of% ?z18_ := by(
  replace c329 := Bool.eq_false_iff.mpr c329
  subst c329
  rw [if_neg (show ¬ (false = true) by decide)] at H
  obtain rfl := Option.some.inj H
  have := NB744_759.out
  have := NB759_744.out
  have := NB744_774.out
  have := NB774_744.out
  obtain ⟨hcz371_0, hcz371_1, hcz371_2, hcz371_3, hcz371_4, hcz371_5, hfz371_0, hfz371_1, hfz371_2, hfz371_3, hfz371_4, hfz371_5⟩ := bx6 BK744
  obtain ⟨Ao372, co372, eo372⟩ := Kd.R_slice HO_40.out
  subst eo372
  try go_wp2_with (first | ((with_reducible refine gate_callee (f := 58) rfl ?_); refine gl_ (some 277) Try.func58 #[.agg #[.int .i64 t732, .int .i64 t733, .int .i64 t734, .slice Ao22 t735.length co22, .slice Ao23 t738.length co23, .slice Ao24 t741.length co24], .slice Ao372 x40_4.length co372] rfl rfl rfl ?_; (with_reducible refine (impl_SumsOf.calls k4 t732 t733 t734 _ _ t735 _ _ t738 _ _ t741 _ _ x40_4 t829 t830 false _ ?side1 ?side2 ?side3 ?side4 ?side5 ?side6 ?side7 ?side8 A325.out).mono ?_); (case side1 => exact Kd.C_o HO_745003); (case side2 => exact (Kd.R_reads' HO_745003.out).2.1); (case side3 => exact Kd.C_o HO_745004); (case side4 => exact (Kd.R_reads' HO_745004.out).2.1); (case side5 => exact Kd.C_o HO_745005); (case side6 => exact (Kd.R_reads' HO_745005.out).2.1); (case side7 => exact Kd.C_o HO_40); (case side8 => exact (Kd.R_reads' HO_40.out).2.1); rintro e w373 ⟨rfl, hb⟩; refine ⟨_, rfl, ?_⟩; replace HO_40 := Kd.R_b HO_40 hb; replace HO_745003 := Kd.R_b HO_745003 hb; replace HO_745004 := Kd.R_b HO_745004 hb; replace HO_745005 := Kd.R_b HO_745005 hb; replace HO_760003 := Kd.R_b HO_760003 hb; replace HO_760004 := Kd.R_b HO_760004 hb; replace HO_760005 := Kd.R_b HO_760005 hb; replace HO_775003 := Kd.R_b HO_775003 hb; replace HO_775004 := Kd.R_b HO_775004 hb; replace HO_775005 := Kd.R_b HO_775005 hb; replace BK744 := kb_ BK744 hb; replace BK759 := kb_ BK759 hb; replace BK774 := kb_ BK774 hb; replace HB := hbs_ HB hb; try clear BK744; try clear GW744; try clear GE744; try clear NB744_759; try clear NB759_744; try clear NB744_774; try clear NB774_744))
  replace HO_40 := Aside0.mk (Kd.R_drew HO_40.out)
  replace HO_745003 := Aside0.mk (Kd.R_drew HO_745003.out)
  replace HO_745004 := Aside0.mk (Kd.R_drew HO_745004.out)
  replace HO_745005 := Aside0.mk (Kd.R_drew HO_745005.out)
  replace HO_760003 := Aside0.mk (Kd.R_drew HO_760003.out)
  replace HO_760004 := Aside0.mk (Kd.R_drew HO_760004.out)
  replace HO_760005 := Aside0.mk (Kd.R_drew HO_760005.out)
  replace HO_775003 := Aside0.mk (Kd.R_drew HO_775003.out)
  replace HO_775004 := Aside0.mk (Kd.R_drew HO_775004.out)
  replace HO_775005 := Aside0.mk (Kd.R_drew HO_775005.out)
  replace BK759 := Aside0.mk (blk_drew BK759.out)
  replace BK774 := Aside0.mk (blk_drew BK774.out)
  replace HB := Aside0.mk (below_drew1 HB.out)
  have q375 : ((t763.length : Int) : Int) ≤ ((x40_4.length : Int) : Int) := of_decide_eq_true (by first | (with_reducible assumption) | assumption)
  obtain ⟨i0375, hi0375, _, hsz375, _⟩ := info_parts info3
  have hroom375 : x40_4.length ≤ co372 := (Kd.R_reads' HO_40.out).2.1
  have hC375 : Kd.C (Kd.int .i64) _ Ao372 x40_4.length x40_4 := (Kd.R_reads' HO_40.out).2.2
  have hcut375 := cut_to (P := Try.prog) 24 3 .i64 Try.underlying24 hi0375 Ao372 x40_4.length co372 (t763.length : Int) (of_decide_eq_true (by first | (with_reducible assumption) | assumption)) q375 hroom375
  have hr375 := Kd.C_take (m := ((t763.length : Int) : Int).toNat) hC375 (by omega)
  have hy375 : y832.length = ((t763.length : Int) : Int).toNat := (by rw [Ny832.out, List.length_take]; omega)
  rw [← Ny832.out] at hr375
  rw [← hy375] at hcut375
  have HR835 := Aside0.mk hr375
  have HC835 := Aside0.mk (show y832.length ≤ co372 from by omega)
  clear hr375 hC375 hroom375 hi0375 hsz375
  have KY375 := Aside0.mk hy375
  clear hy375
  have KL375 := Aside0.mk (show ((t763.length : Int) : Int).toNat ≤ x40_4.length from by omega)
  replace q375 := eq_true q375
  refine start_ (n := 14) (S := fun w' => w'.cell? ⟨gb759, 0, none⟩ = some (.int .i64 t745) ∧ w'.cell? ⟨gb759, 1, none⟩ = some (.int .i64 t746) ∧ w'.cell? ⟨gb759, 2, none⟩ = some (.int .i64 t747) ∧ w'.cell? ⟨gb759, 3, none⟩ = some (.slice Ao29 t748.length co29) ∧ w'.cell? ⟨gb759, 4, none⟩ = some (.slice Ao30 t751.length co30) ∧ w'.cell? ⟨gb759, 5, none⟩ = some (.slice Ao31 t754.length co31) ∧ w'.cell? ⟨gb774, 0, none⟩ = some (.int .i64 t760) ∧ w'.cell? ⟨gb774, 1, none⟩ = some (.int .i64 t761) ∧ w'.cell? ⟨gb774, 2, none⟩ = some (.int .i64 t762) ∧ w'.cell? ⟨gb774, 3, none⟩ = some (.slice Ao38 t763.length co38) ∧ w'.cell? ⟨gb774, 4, none⟩ = some (.slice Ao39 t766.length co39) ∧ w'.cell? ⟨gb774, 5, none⟩ = some (.slice Ao40 t769.length co40)) (ds := []) (bb 14 0) (by kernel_rfl) rfl rfl ⟨(blk_cell BK759.out 0).trans rfl, (blk_cell BK759.out 1).trans rfl, (blk_cell BK759.out 2).trans rfl, (blk_cell BK759.out 3).trans rfl, (blk_cell BK759.out 4).trans rfl, (blk_cell BK759.out 5).trans rfl, (blk_cell BK774.out 0).trans rfl, (blk_cell BK774.out 1).trans rfl, (blk_cell BK774.out 2).trans rfl, (blk_cell BK774.out 3).trans rfl, (blk_cell BK774.out 4).trans rfl, (blk_cell BK774.out 5).trans rfl⟩ (fun hHeld => ?_); refine with_tabW laws_FnCoarse.tab49 laws_FnCoarse.bits49 (fun HT_ HW_ => ?_)
  generalize w373.drew = w374 at HO_40 HO_745003 HO_745004 HO_745005 HO_760003 HO_760004 HO_760005 HO_775003 HO_775004 HO_775005 BK759 BK774 HB HR835 hHeld ⊢
  refine pl_ HT_ 1 (some 283) (bb 14 2) (h := ?_)
  refine pl_ HT_ 2 (some 284) (bb 14 6) (h := ?_)
  refine tk_ HT_ HW_ hHeld 0 (some 282) (bb 14 7) (h := ?_)
  refine tk_ HT_ HW_ hHeld 3 (some 285) (bb 14 15) (h := ?_)
  refine pl_ HT_ 4 (some 286) (bb 14 31) (h := ?_)
  refine pl_ HT_ 5 (some 287) (bb 14 63) (h := ?_)
  refine one_ (i := 6) (N := some 288) (bb 14 127) rfl rfl (one_of HT_.out (by kernel_rfl)) (by decide) (fun K hK => ?_)
  refine goes_ Try.func58 (by kernel_rfl) rfl #[.agg #[.int .i64 t745, .int .i64 t746, .int .i64 t747, .slice Ao29 t748.length co29, .slice Ao30 t751.length co30, .slice Ao31 t754.length co31], .slice Ao372 y832.length co372] (by rfl) rfl rfl (by (try simp only [List.map_toArray, List.map_cons, List.map_nil]); first | done | rfl | (simp only [List.length_drop, List.length_take]; rfl)) ?_
  with_reducible refine (impl_SumsOf.calls k4 t745 t746 t747 _ _ t748 _ _ t751 _ _ t754 _ _ y832 t836 t837 t838 _ ?side1 ?side2 ?side3 ?side4 ?side5 ?side6 ?side7 ?side8 A328.out).mono ?_
  (case side1 => exact Kd.C_o HO_760003)
  (case side2 => exact (Kd.R_reads' HO_760003.out).2.1)
  (case side3 => exact Kd.C_o HO_760004)
  (case side4 => exact (Kd.R_reads' HO_760004.out).2.1)
  (case side5 => exact Kd.C_o HO_760005)
  (case side6 => exact (Kd.R_reads' HO_760005.out).2.1)
  (case side7 => repeat (first | exact (by repeat (first | (with_reducible exact HR835.out) | (with_reducible refine Kd.C_alloc ?_ _) | (with_reducible refine Kd.C_drewN ?_ _) | (with_reducible refine Kd.C_drew ?_) | exact HR835.out)) | (with_reducible refine Kd.C_alloc ?_ _) | (with_reducible refine Kd.C_drewN ?_ _) | (with_reducible refine Kd.C_drew ?_)))
  (case side8 => exact HC835.out)
  rintro e w376 ⟨rfl, hb⟩
  refine ⟨_, rfl, ?_⟩
  replace HO_40 := Aside0.mk (Kd.R_below (Kd.R_p HO_40) hb)
  replace HO_745003 := Aside0.mk (Kd.R_below (Kd.R_p HO_745003) hb)
  replace HO_745004 := Aside0.mk (Kd.R_below (Kd.R_p HO_745004) hb)
  replace HO_745005 := Aside0.mk (Kd.R_below (Kd.R_p HO_745005) hb)
  replace HO_760003 := Aside0.mk (Kd.R_below (Kd.R_p HO_760003) hb)
  replace HO_760004 := Aside0.mk (Kd.R_below (Kd.R_p HO_760004) hb)
  replace HO_760005 := Aside0.mk (Kd.R_below (Kd.R_p HO_760005) hb)
  replace HO_775003 := Aside0.mk (Kd.R_below (Kd.R_p HO_775003) hb)
  replace HO_775004 := Aside0.mk (Kd.R_below (Kd.R_p HO_775004) hb)
  replace HO_775005 := Aside0.mk (Kd.R_below (Kd.R_p HO_775005) hb)
  replace BK759 := Aside0.mk (blk_below (kp_ BK759) hb)
  replace BK774 := Aside0.mk (blk_below (kp_ BK774) hb)
  replace HR835 := Aside0.mk (Kd.C_below (by repeat (first | (with_reducible exact HR835.out) | (with_reducible refine Kd.C_alloc ?_ _) | (with_reducible refine Kd.C_drewN ?_ _) | (with_reducible refine Kd.C_drew ?_) | exact HR835.out)) hb)
  replace HB := Aside0.mk (below_step (hb_ HB) hb)
  refine hK.out _ _ ⟨(blk_cell BK759.out 0).trans rfl, (blk_cell BK759.out 1).trans rfl, (blk_cell BK759.out 2).trans rfl, (blk_cell BK759.out 3).trans rfl, (blk_cell BK759.out 4).trans rfl, (blk_cell BK759.out 5).trans rfl, (blk_cell BK774.out 0).trans rfl, (blk_cell BK774.out 1).trans rfl, (blk_cell BK774.out 2).trans rfl, (blk_cell BK774.out 3).trans rfl, (blk_cell BK774.out 4).trans rfl, (blk_cell BK774.out 5).trans rfl⟩ (fun hHeld => ?_)
  clear hK K
  refine nm_ (some 288) (h := ?_)
  refine pl_ HT_ 7 (some 281) (bb 14 255) (h := ?_)
  refine pl_ HT_ 8 (some 289) (bb 14 511) (h := ?_)
  refine pl_ HT_ 9 (some 290) (bb 14 1023) (h := ?_)
  refine pl_ HT_ 10 (some 291) (bb 14 2047) (h := ?_)
  refine pl_ HT_ 11 (some 45) (bb 14 4095) (h := ?_)
  refine pl_ HT_ 12 (some 46) (bb 14 8191) (h := ?_)
  refine pl_ HT_ 13 (some 47) (bb 14 16383) (h := ?_)
  refine done_ (done_of HT_.out (by kernel_rfl)) ?_
  try go_wp2
  go_ret
  exact ad_ (hb_ HB)
  )
  exact p18_
 )
 exact p13_
theorem laws_FnCoarse.calls (k : Nat) (A0 : Option Addr) (c0 : Nat) (l0 : List Int) (A1 : Option Addr) (c1 : Nat) (l1 : List Int) (r : Bool) (w : World) (hr0 : Kd.C (Kd.int .u8) w A0 l0.length l0) (hc0 : l0.length ≤ c0) (hr1 : Kd.C (Kd.int .u8) w A1 l1.length l1) (hc1 : l1.length ≤ c1) (h : laws_FnCoarse.f k l0 l1 = some r) :
  Calls Try.prog 10 #[.slice A0 l0.length c0, .slice A1 l1.length c1] w fun e w' => e = .returned (.bool r) ∧ Below w.heap.size w w' :=
  (laws_FnCoarse.top1.2 ⟨(laws_FnCoarse.top2.2 ⟨(laws_FnCoarse.top3.2 ⟨laws_FnCoarse.rest3⟩)⟩)⟩) k A0 c0 l0 A1 c1 l1 r w hr0 hc0 hr1 hc1 h

/-- THE ONE PURE STATEMENT of laws_FnCoarse: yours. -/
def laws_FnCoarse.Pure : Prop := ∀ (l0 : List Int) (l1 : List Int), l0.length ≤ maxLen → l0.length * 1 ≤ 140737488351232 → (∀ x ∈ l0, (Lit.int .u8 x).wf = true) → l1.length ≤ maxLen → l1.length * 1 ≤ 140737488351232 → (∀ x ∈ l1, (Lit.int .u8 x).wf = true) → ∃ k, laws_FnCoarse.f k l0 l1 = some true
theorem laws_FnCoarse.walk (P : laws_FnCoarse.Pure) (a0 : Option Addr) (len0 cap0 : Nat) (z0 : List Int) (a1 : Option Addr) (len1 cap1 : Nat) (z1 : List Int) (w : World) (w0 : (a0 = none ∧ len0 = 0 ∧ cap0 = 0 ∧ z0 = []) ∨ ∃ x, a0 = some x ∧ len0 ≤ cap0 ∧ cap0 ≤ maxLen ∧ z0.length = cap0 ∧ (∀ i, i < z0.length → w.cell? (x.add i) = some (.int .u8 (z0.getD i 0))) ∧ ∀ n ∈ z0, (Lit.int .u8 n).wf = true) (y0 : len0 * 1 ≤ 140737488351232) (w1 : (a1 = none ∧ len1 = 0 ∧ cap1 = 0 ∧ z1 = []) ∨ ∃ x, a1 = some x ∧ len1 ≤ cap1 ∧ cap1 ≤ maxLen ∧ z1.length = cap1 ∧ (∀ i, i < z1.length → w.cell? (x.add i) = some (.int .u8 (z1.getD i 0))) ∧ ∀ n ∈ z1, (Lit.int .u8 n).wf = true) (y1 : len1 * 1 ≤ 140737488351232) :
  Calls Try.prog 10 #[.slice a0 len0 cap0, .slice a1 len1 cap1] w fun e w' => e = .returned (.bool true) ∧ Below w.heap.size w w' := by
 obtain ⟨l0, rfl, hr0, hm0, hw0, hc0⟩ := ReadsInt.ofRowC w0
 obtain ⟨l1, rfl, hr1, hm1, hw1, hc1⟩ := ReadsInt.ofRowC w1
 obtain ⟨k, h⟩ := P l0 l1 hm0 y0 hw0 hm1 y1 hw1
 refine (laws_FnCoarse.calls k _ _ l0 _ _ l1 true w (Kd.C_of_reads (d := (0 : Int)) (h1 := fun _ => rfl) hr0) hc0 (Kd.C_of_reads (d := (0 : Int)) (h1 := fun _ => rfl) hr1) hc1 h).mono ?_
 rintro e w' ⟨rfl, hd⟩
 exact ⟨rfl, hd⟩

end Go.Proofs.Ytceajigggcihnaa.PFnCoarse
