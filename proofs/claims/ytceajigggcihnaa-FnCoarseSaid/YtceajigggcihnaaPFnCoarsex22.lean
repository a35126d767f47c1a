-- Laid for this claim by wip/tools/print2.sh, a changed copy of the kit's print (wip/tools/patch_print.py): not by print.sh. Parted by wip/fix/split.py and part.py.
import Derived.Test.YtceajigggcihnaaPFnCoarsex21
namespace Go.Proofs.Ytceajigggcihnaa.PFnCoarse
open Go.RowKit Go.Proofs.YtceajigggcihnaaW.PrintWords Go.Proofs.YtceajigggcihnaaW.PrintLast Go.Proofs.YtceajigggcihnaaW.PrintMore
attribute [local go_sem] max2_int min2_int max_two min_two max_three min_three max_four min_four
set_option linter.unusedVariables false
set_option linter.unusedSimpArgs false

attribute [local go_sem high] eqA29
set_option maxHeartbeats 60000000 in
set_option maxRecDepth 100000 in
def laws_FnCoarse.top2 : {R : Prop // Nonempty R → (laws_FnCoarse.top1.1)} := ⟨_, fun hR_ => by
 intro dm_; unhygienic intros; have hu34 := Try.underlying34; have hu32 := Try.underlying32; have hu29 := Try.underlying29
 clear HC18
 obtain ⟨kq, x179_17, rfl, HA, HJ17, HO_12, HO_16, HO_20, HO_745003, HO_745004, HO_745005, HO_760003, HO_760004, HO_760005, HO_775003, HO_775004, HO_775005, BK744, BK759, BK774, HB⟩ := hcut
 cases kq with
 | zero => exact absurd HA.out (by simp [laws_FnCoarse.j0])
 | succ kj17 => ?_
 have H := HA.out
 clear HA
 simp only [laws_FnCoarse.j0] at H
 by_cases c213 : x179_17 = true
 ·subst c213
  rw [if_pos rfl] at H
  obtain rfl := Option.some.inj H
  go_wp2
  go_ret
  exact ad_ (hb_ HB)
 replace c213 := Bool.eq_false_iff.mpr c213
 subst c213
 rw [if_neg (show ¬ (false = true) by decide)] at H
 have HC214 := Aside0.mk H
 clear H
 go_upto_if 180 with (fail)
 go_cut [] (fun wc => ∃ (kq : Nat), Aside0 (laws_FnCoarse.j2 kq t758 t772 t775 t776 t780 t783 t788 t732 t733 t734 t735 t738 t741 t745 t746 t747 t748 t751 t754 t760 t761 t762 t763 t766 t769 = some r) ∧ Aside0 (kq ≤ kj17) ∧ Aside0 (Kd.R k29 29 wc w.heap.size (fun _ => True) (.slice Ao42 t775.length co42) t775) ∧ Aside0 (Kd.R (Kd.int .i64) 3 wc w.heap.size (fun _ => True) v785 t783) ∧ Aside0 (Kd.R (Kd.int .i64) 3 wc w.heap.size (fun _ => True) (.slice Ao22 t735.length co22) t735) ∧ Aside0 (Kd.R (Kd.int .i64) 3 wc w.heap.size (fun _ => True) (.slice Ao23 t738.length co23) t738) ∧ Aside0 (Kd.R (Kd.int .i64) 3 wc w.heap.size (fun _ => True) (.slice Ao24 t741.length co24) t741) ∧ Aside0 (Kd.R (Kd.int .i64) 3 wc w.heap.size (fun _ => True) (.slice Ao29 t748.length co29) t748) ∧ Aside0 (Kd.R (Kd.int .i64) 3 wc w.heap.size (fun _ => True) (.slice Ao30 t751.length co30) t751) ∧ Aside0 (Kd.R (Kd.int .i64) 3 wc w.heap.size (fun _ => True) (.slice Ao31 t754.length co31) t754) ∧ Aside0 (Kd.R (Kd.int .i64) 3 wc w.heap.size (fun _ => True) (.slice Ao38 t763.length co38) t763) ∧ Aside0 (Kd.R (Kd.int .i64) 3 wc w.heap.size (fun _ => True) (.slice Ao39 t766.length co39) t766) ∧ Aside0 (Kd.R (Kd.int .i64) 3 wc w.heap.size (fun _ => True) (.slice Ao40 t769.length co40) t769) ∧ Aside0 (wc.heap[gb744]? = some (.cells #[.int .i64 t732, .int .i64 t733, .int .i64 t734, (.slice Ao22 t735.length co22), (.slice Ao23 t738.length co23), (.slice Ao24 t741.length co24)] 34 (0, 0))) ∧ Aside0 (wc.heap[gb759]? = some (.cells #[.int .i64 t745, .int .i64 t746, .int .i64 t747, (.slice Ao29 t748.length co29), (.slice Ao30 t751.length co30), (.slice Ao31 t754.length co31)] 34 (0, 0))) ∧ Aside0 (wc.heap[gb774]? = some (.cells #[.int .i64 t760, .int .i64 t761, .int .i64 t762, (.slice Ao38 t763.length co38), (.slice Ao39 t766.length co39), (.slice Ao40 t769.length co40)] 34 (0, 0))) ∧ Aside0 (Below w.heap.size w wc))
 case first =>
  have H := HC214.out
  clear HC214
  by_cases c215 : t788 = true
  ·refine ?z6_
   let rec p6_ : type_of% ?z6_ := by(
   subst c215
   rw [if_pos rfl] at H
   have H' := Aside0.mk H
   clear H
   go_wp2_with (first | ((with_reducible refine gate_dst (N := 33) rfl ?_); refine bv_ 33 (cs := #[.int .i64 0, .int .i64 0, .int .i64 0]) (t := 29) ?_; intro gb820 hg w216 hbox hb; have BK820 := Aside0.mk (hbox); have GW820 := gs_ hg HB; have GE820 := gs_ hg HB; have NB744_820 := nl_ hg BK744; have NB820_744 := ng_ hg BK744; have NB759_820 := nl_ hg BK759; have NB820_759 := ng_ hg BK759; have NB774_820 := nl_ hg BK774; have NB820_774 := ng_ hg BK774; replace HO_12 := Aside0.mk (Kd.R_below (Kd.R_elderB (Kd.R_p HO_12) gb820 (Nat.le_of_eq hg.symm)) hb); replace HO_16 := Kd.R_b HO_16 hb; replace HO_20 := Kd.R_b HO_20 hb; replace HO_745003 := Kd.R_b HO_745003 hb; replace HO_745004 := Kd.R_b HO_745004 hb; replace HO_745005 := Kd.R_b HO_745005 hb; replace HO_760003 := Kd.R_b HO_760003 hb; replace HO_760004 := Kd.R_b HO_760004 hb; replace HO_760005 := Kd.R_b HO_760005 hb; replace HO_775003 := Kd.R_b HO_775003 hb; replace HO_775004 := Kd.R_b HO_775004 hb; replace HO_775005 := Kd.R_b HO_775005 hb; replace BK744 := kb_ BK744 hb; replace BK759 := kb_ BK759 hb; replace BK774 := kb_ BK774 hb; replace HB := hbs_ HB hb; clear hb hbox hg; have := NB820_744.out; have := NB744_820.out; have := NB820_759.out; have := NB759_820.out; have := NB820_774.out; have := NB774_820.out; obtain ⟨hcz220_0, hcz220_1, hcz220_2, hfz220_0, hfz220_1, hfz220_2⟩ := bx3 BK820; obtain ⟨Ao221, co221, eo221⟩ := Kd.R_slice HO_20.out; subst eo221))
   go_loopg [184] kj17 (fun kq v184 w' => ∃ (x184_2 : Int) (x821000_2 : Int) (x821001_2 : Int) (x821002_2 : Int), v184 = .int .i64 x184_2 ∧ Aside0 (laws_FnCoarse.l0 kq t758 t772 t775 t776 t780 t783 true t791 t791 (t791.length : Int) x184_2 t732 t733 t734 t735 t738 t741 t745 t746 t747 t748 t751 t754 t760 t761 t762 t763 t766 t769 x821000_2 x821001_2 x821002_2 = some r) ∧ Aside0 (kq ≤ kj17) ∧ Aside0 (Kd.R k29 29 w' w.heap.size (fun k_ => k_ ≠ gb820) (.slice Ao42 t775.length co42) t775) ∧ Aside0 (Kd.R (Kd.int .i64) 3 w' w.heap.size (fun _ => True) v785 t783) ∧ Aside0 (Kd.R (Kd.int .i64) 3 w' w.heap.size (fun _ => True) (.slice Ao221 t791.length co221) t791) ∧ Aside0 (Kd.R (Kd.int .i64) 3 w' w.heap.size (fun _ => True) (.slice Ao221 t791.length co221) t791) ∧ Aside0 (Kd.R (Kd.int .i64) 3 w' w.heap.size (fun _ => True) (.slice Ao22 t735.length co22) t735) ∧ Aside0 (Kd.R (Kd.int .i64) 3 w' w.heap.size (fun _ => True) (.slice Ao23 t738.length co23) t738) ∧ Aside0 (Kd.R (Kd.int .i64) 3 w' w.heap.size (fun _ => True) (.slice Ao24 t741.length co24) t741) ∧ Aside0 (Kd.R (Kd.int .i64) 3 w' w.heap.size (fun _ => True) (.slice Ao29 t748.length co29) t748) ∧ Aside0 (Kd.R (Kd.int .i64) 3 w' w.heap.size (fun _ => True) (.slice Ao30 t751.length co30) t751) ∧ Aside0 (Kd.R (Kd.int .i64) 3 w' w.heap.size (fun _ => True) (.slice Ao31 t754.length co31) t754) ∧ Aside0 (Kd.R (Kd.int .i64) 3 w' w.heap.size (fun _ => True) (.slice Ao38 t763.length co38) t763) ∧ Aside0 (Kd.R (Kd.int .i64) 3 w' w.heap.size (fun _ => True) (.slice Ao39 t766.length co39) t766) ∧ Aside0 (Kd.R (Kd.int .i64) 3 w' w.heap.size (fun _ => True) (.slice Ao40 t769.length co40) t769) ∧ Aside0 (w'.heap[gb744]? = some (.cells #[.int .i64 t732, .int .i64 t733, .int .i64 t734, (.slice Ao22 t735.length co22), (.slice Ao23 t738.length co23), (.slice Ao24 t741.length co24)] 34 (0, 0))) ∧ Aside0 (w'.heap[gb759]? = some (.cells #[.int .i64 t745, .int .i64 t746, .int .i64 t747, (.slice Ao29 t748.length co29), (.slice Ao30 t751.length co30), (.slice Ao31 t754.length co31)] 34 (0, 0))) ∧ Aside0 (w'.heap[gb774]? = some (.cells #[.int .i64 t760, .int .i64 t761, .int .i64 t762, (.slice Ao38 t763.length co38), (.slice Ao39 t766.length co39), (.slice Ao40 t769.length co40)] 34 (0, 0))) ∧ Aside0 (w'.heap[gb820]? = some (.cells #[.int .i64 x821000_2, .int .i64 x821001_2, .int .i64 x821002_2] 29 (0, 0))) ∧ Aside0 (Below w.heap.size w w'))
   case atStart => exact ⟨(0), (0), (0), (0), (by first | rfl | (simp; done) | (simp [*]; done)), H', ⟨Nat.le_refl _⟩, ⟨rm_ (h := rf_ (rf_ (rf_ HO_12.out)))⟩, ⟨Kd.R_mono (Kd.R_s HO_16 BK820) (fun _ _ => trivial)⟩, ⟨Kd.R_mono (Kd.R_s HO_20 BK820) (fun _ _ => trivial)⟩, ⟨Kd.R_mono (Kd.R_s HO_20 BK820) (fun _ _ => trivial)⟩, ⟨Kd.R_mono (Kd.R_s HO_745003 BK820) (fun _ _ => trivial)⟩, ⟨Kd.R_mono (Kd.R_s HO_745004 BK820) (fun _ _ => trivial)⟩, ⟨Kd.R_mono (Kd.R_s HO_745005 BK820) (fun _ _ => trivial)⟩, ⟨Kd.R_mono (Kd.R_s HO_760003 BK820) (fun _ _ => trivial)⟩, ⟨Kd.R_mono (Kd.R_s HO_760004 BK820) (fun _ _ => trivial)⟩, ⟨Kd.R_mono (Kd.R_s HO_760005 BK820) (fun _ _ => trivial)⟩, ⟨Kd.R_mono (Kd.R_s HO_775003 BK820) (fun _ _ => trivial)⟩, ⟨Kd.R_mono (Kd.R_s HO_775004 BK820) (fun _ _ => trivial)⟩, ⟨Kd.R_mono (Kd.R_s HO_775005 BK820) (fun _ _ => trivial)⟩, ⟨kf_ BK744 NB744_820⟩, ⟨kf_ BK759 NB759_820⟩, ⟨kf_ BK774 NB774_820⟩, ⟨kpq_ (kputs BK820 [(0, _), (1, _), (2, _)])⟩, ⟨hb_ HB⟩⟩
   case round =>
    clear H'
    obtain ⟨x184_2, x821000_2, x821001_2, x821002_2, rfl, HA, HK2, HO_12, HO_16, HO_20, HO_182, HO_745003, HO_745004, HO_745005, HO_760003, HO_760004, HO_760005, HO_775003, HO_775004, HO_775005, BK744, BK759, BK774, BK820, HB⟩ := hrel
    cases gk with
    | zero => exact absurd HA.out (by simp [laws_FnCoarse.l0])
    | succ k2 => ?_
    have H := HA.out
    clear HA
    simp only [laws_FnCoarse.l0] at H
    by_cases c222 : x184_2 < (t791.length : Int)
    ·rw [if_pos c222] at H
     have c222b0 := decide_eq_true c222
     clear c222
     (first | rw [c222b0] | (simp only [i64_w, i32_w]; rw [c222b0]) | skip)
     by_cases c223 : 0 ≤ x184_2
     case neg => rw [if_neg c223] at H; exact absurd H (by simp)
     rw [if_pos c223] at H
     have c223b0 := decide_eq_true c223
     clear c223
     by_cases c224 : x184_2 < (t791.length : Int)
     case neg => rw [if_neg c224] at H; exact absurd H (by simp)
     rw [if_pos c224] at H
     have c224b0 := decide_eq_true c224
     clear c224
     by_cases c225 : 0 ≤ (rd t791 x184_2)
     case neg => rw [if_neg c225] at H; exact absurd H (by simp)
     rw [if_pos c225] at H
     have c225b0 := decide_eq_true c225
     clear c225
     by_cases c226 : (rd t791 x184_2) < (t775.length : Int)
     case neg => rw [if_neg c226] at H; exact absurd H (by simp)
     refine ?z7_
     let rec p7_ : type_of% ?z7_ := by(
     rw [if_pos c226] at H
     have c226b0 := decide_eq_true c226
     clear c226
     by_cases c227 : x184_2 > 0
     ·rw [if_pos c227] at H
      have c227b0 : decide (0 < x184_2) = true := decide_eq_true c227
      clear c227
      by_cases c228 : x821000_2 > 0
      ·rw [if_pos c228] at H
       have c228b0 : decide (0 < x821000_2) = true := decide_eq_true c228
       clear c228
       by_cases c229 : ((rd_T29 t775 (rd t791 x184_2)).f0) > 0
       ·rw [if_pos c229] at H
        have c229b0 : decide (0 < ((rd_T29 t775 (rd t791 x184_2)).f0)) = true := decide_eq_true c229
        clear c229
        by_cases c230 : (wrap64 (((rd_T29 t775 (rd t791 x184_2)).f1) * x821000_2)) > (wrap64 (x821001_2 * ((rd_T29 t775 (rd t791 x184_2)).f0)))
        ·rw [if_pos c230] at H
         have c230b0 : decide ((wrap64 (x821001_2 * ((rd_T29 t775 (rd t791 x184_2)).f0))) < (wrap64 (((rd_T29 t775 (rd t791 x184_2)).f1) * x821000_2))) = true := decide_eq_true c230
         clear c230
         obtain rfl := Option.some.inj H
         obtain ⟨ad821, e821, hx821_0, p821, q821⟩ := ai_ (Kd.R_reads' HO_182.out).2.2 x184_2
         cases e821
         have p822 : 0 ≤ ((rd t791 x184_2) : Int) := of_decide_eq_true (by first | (with_reducible assumption) | assumption)
         have q822 : (rd t791 x184_2) < (t775.length : Int) := of_decide_eq_true (by first | (with_reducible assumption) | assumption)
         obtain ⟨ad822, e822, hx822_0, hx822_1, hx822_2⟩ := at_T29 (Kd.R_reads' HO_12.out).2.2 (rd t791 x184_2) p822 q822
         cases e822
         replace p822 := eq_true p822
         replace q822 := eq_true q822
         go_wp2_with (first | ((with_reducible refine gate_dst (N := 36) rfl ?_); refine bv_ 36 (cs := #[.int .i64 0, .int .i64 0, .int .i64 0]) (t := 29) ?_; intro gb823 hg w231 hbox hb; have BK823 := Aside0.mk (hbox); have GW823 := gs_ hg HB; have GE823 := gs_ hg HB; have NB820_823 := nl_ hg BK820; have NB823_820 := ng_ hg BK820; replace HO_12 := Aside0.mk (Kd.R_below (Kd.R_elderB (Kd.R_p HO_12) gb823 (Nat.le_of_eq hg.symm)) hb); replace HO_16 := Kd.R_b HO_16 hb; replace HO_20 := Kd.R_b HO_20 hb; replace HO_182 := Kd.R_b HO_182 hb; replace HO_745003 := Kd.R_b HO_745003 hb; replace HO_745004 := Kd.R_b HO_745004 hb; replace HO_745005 := Kd.R_b HO_745005 hb; replace HO_760003 := Kd.R_b HO_760003 hb; replace HO_760004 := Kd.R_b HO_760004 hb; replace HO_760005 := Kd.R_b HO_760005 hb; replace HO_775003 := Kd.R_b HO_775003 hb; replace HO_775004 := Kd.R_b HO_775004 hb; replace HO_775005 := Kd.R_b HO_775005 hb; replace BK820 := kb_ BK820 hb; replace HB := hbs_ HB hb; clear hb hbox hg; have := NB823_820.out; have := NB820_823.out; obtain ⟨hcz233_0, hcz233_1, hcz233_2, hfz233_0, hfz233_1, hfz233_2⟩ := bx3 BK823; obtain ⟨hcz234_0, hcz234_1, hcz234_2, hfz234_0, hfz234_1, hfz234_2⟩ := bx3 BK820))
         go_ret
         exact ad_ (hb_ HB)
        refine ?z8_
        let rec p8_ : type_of% ?z8_ := by(
        rw [if_neg c230] at H
        have c230b0 : decide ((wrap64 (x821001_2 * ((rd_T29 t775 (rd t791 x184_2)).f0))) < (wrap64 (((rd_T29 t775 (rd t791 x184_2)).f1) * x821000_2))) = false := decide_eq_false c230
        clear c230
        by_cases c235 : x821000_2 = 0
        ·rw [if_pos c235] at H
         have c235b0 : (x821000_2 == 0) = true := beq_iff_eq.mpr c235
         have c235b1 : (x821000_2 != 0) = false := bne_eq_false_iff_eq.mpr c235
         clear c235
         obtain rfl := Option.some.inj H
         obtain ⟨ad821, e821, hx821_0, p821, q821⟩ := ai_ (Kd.R_reads' HO_182.out).2.2 x184_2
         cases e821
         have p822 : 0 ≤ ((rd t791 x184_2) : Int) := of_decide_eq_true (by first | (with_reducible assumption) | assumption)
         have q822 : (rd t791 x184_2) < (t775.length : Int) := of_decide_eq_true (by first | (with_reducible assumption) | assumption)
         obtain ⟨ad822, e822, hx822_0, hx822_1, hx822_2⟩ := at_T29 (Kd.R_reads' HO_12.out).2.2 (rd t791 x184_2) p822 q822
         cases e822
         replace p822 := eq_true p822
         replace q822 := eq_true q822
         go_wp2_with (first | ((with_reducible refine gate_dst (N := 36) rfl ?_); refine bv_ 36 (cs := #[.int .i64 0, .int .i64 0, .int .i64 0]) (t := 29) ?_; intro gb823 hg w236 hbox hb; have BK823 := Aside0.mk (hbox); have GW823 := gs_ hg HB; have GE823 := gs_ hg HB; have NB820_823 := nl_ hg BK820; have NB823_820 := ng_ hg BK820; replace HO_12 := Aside0.mk (Kd.R_below (Kd.R_elderB (Kd.R_p HO_12) gb823 (Nat.le_of_eq hg.symm)) hb); replace HO_16 := Kd.R_b HO_16 hb; replace HO_20 := Kd.R_b HO_20 hb; replace HO_182 := Kd.R_b HO_182 hb; replace HO_745003 := Kd.R_b HO_745003 hb; replace HO_745004 := Kd.R_b HO_745004 hb; replace HO_745005 := Kd.R_b HO_745005 hb; replace HO_760003 := Kd.R_b HO_760003 hb; replace HO_760004 := Kd.R_b HO_760004 hb; replace HO_760005 := Kd.R_b HO_760005 hb; replace HO_775003 := Kd.R_b HO_775003 hb; replace HO_775004 := Kd.R_b HO_775004 hb; replace HO_775005 := Kd.R_b HO_775005 hb; replace BK820 := kb_ BK820 hb; replace HB := hbs_ HB hb; clear hb hbox hg; have := NB823_820.out; have := NB820_823.out; obtain ⟨hcz238_0, hcz238_1, hcz238_2, hfz238_0, hfz238_1, hfz238_2⟩ := bx3 BK823; obtain ⟨hcz239_0, hcz239_1, hcz239_2, hfz239_0, hfz239_1, hfz239_2⟩ := bx3 BK820))
         go_ret
         exact ad_ (hb_ HB)
        ·rw [if_neg c235] at H
         have c235b0 : (x821000_2 == 0) = false := beq_eq_false_iff_ne.mpr c235
         have c235b1 : (x821000_2 != 0) = true := bne_iff_ne.mpr c235
         have H' := Aside0.mk H
         clear H
         obtain ⟨ad821, e821, hx821_0, p821, q821⟩ := ai_ (Kd.R_reads' HO_182.out).2.2 x184_2
         cases e821
         have p822 : 0 ≤ ((rd t791 x184_2) : Int) := of_decide_eq_true (by first | (with_reducible assumption) | assumption)
         have q822 : (rd t791 x184_2) < (t775.length : Int) := of_decide_eq_true (by first | (with_reducible assumption) | assumption)
         obtain ⟨ad822, e822, hx822_0, hx822_1, hx822_2⟩ := at_T29 (Kd.R_reads' HO_12.out).2.2 (rd t791 x184_2) p822 q822
         cases e822
         replace p822 := eq_true p822
         replace q822 := eq_true q822
         go_wp2_with (first | ((with_reducible refine gate_dst (N := 36) rfl ?_); refine bv_ 36 (cs := #[.int .i64 0, .int .i64 0, .int .i64 0]) (t := 29) ?_; intro gb823 hg w240 hbox hb; have BK823 := Aside0.mk (hbox); have GW823 := gs_ hg HB; have GE823 := gs_ hg HB; have NB744_823 := nl_ hg BK744; have NB823_744 := ng_ hg BK744; have NB759_823 := nl_ hg BK759; have NB823_759 := ng_ hg BK759; have NB774_823 := nl_ hg BK774; have NB823_774 := ng_ hg BK774; have NB820_823 := nl_ hg BK820; have NB823_820 := ng_ hg BK820; replace HO_12 := Aside0.mk (Kd.R_below (Kd.R_elderB (Kd.R_p HO_12) gb823 (Nat.le_of_eq hg.symm)) hb); replace HO_16 := Kd.R_b HO_16 hb; replace HO_20 := Kd.R_b HO_20 hb; replace HO_182 := Kd.R_b HO_182 hb; replace HO_745003 := Kd.R_b HO_745003 hb; replace HO_745004 := Kd.R_b HO_745004 hb; replace HO_745005 := Kd.R_b HO_745005 hb; replace HO_760003 := Kd.R_b HO_760003 hb; replace HO_760004 := Kd.R_b HO_760004 hb; replace HO_760005 := Kd.R_b HO_760005 hb; replace HO_775003 := Kd.R_b HO_775003 hb; replace HO_775004 := Kd.R_b HO_775004 hb; replace HO_775005 := Kd.R_b HO_775005 hb; replace BK744 := kb_ BK744 hb; replace BK759 := kb_ BK759 hb; replace BK774 := kb_ BK774 hb; replace BK820 := kb_ BK820 hb; replace HB := hbs_ HB hb; clear hb hbox hg; have := NB823_744.out; have := NB744_823.out; have := NB823_759.out; have := NB759_823.out; have := NB823_774.out; have := NB774_823.out; have := NB823_820.out; have := NB820_823.out; obtain ⟨hcz245_0, hcz245_1, hcz245_2, hfz245_0, hfz245_1, hfz245_2⟩ := bx3 BK823; have := NB820_744.out; have := NB744_820.out; have := NB820_759.out; have := NB759_820.out; have := NB820_774.out; have := NB774_820.out; obtain ⟨hcz249_0, hcz249_1, hcz249_2, hfz249_0, hfz249_1, hfz249_2⟩ := bx3 BK820))
         go_roundg k2
         case measure => have := HJ17.out; have := HK2.out; omega
         case rel => exact ⟨(wrap64 (x184_2 + 1)), ((rd_T29 t775 (rd t791 x184_2)).f0), ((rd_T29 t775 (rd t791 x184_2)).f1), ((rd_T29 t775 (rd t791 x184_2)).f2), (by first | rfl | (simp; done) | (simp [*]; done)), H', ⟨by have := HJ17.out; have := HK2.out; omega⟩, ⟨rm_ (h := rf_ (rf_ (rf_ (rf_ (rf_ (rf_ HO_12.out))))))⟩, ⟨rm_ (h := rf_ (rf_ (rf_ (rf_ (rf_ (rf_ (rt_ (rt_ HO_16.out BK823) BK820)))))))⟩, ⟨rm_ (h := rf_ (rf_ (rf_ (rf_ (rf_ (rf_ (rt_ (rt_ HO_20.out BK823) BK820)))))))⟩, ⟨rm_ (h := rf_ (rf_ (rf_ (rf_ (rf_ (rf_ (rt_ (rt_ HO_182.out BK823) BK820)))))))⟩, ⟨rm_ (h := rf_ (rf_ (rf_ (rf_ (rf_ (rf_ (rt_ (rt_ HO_745003.out BK823) BK820)))))))⟩, ⟨rm_ (h := rf_ (rf_ (rf_ (rf_ (rf_ (rf_ (rt_ (rt_ HO_745004.out BK823) BK820)))))))⟩, ⟨rm_ (h := rf_ (rf_ (rf_ (rf_ (rf_ (rf_ (rt_ (rt_ HO_745005.out BK823) BK820)))))))⟩, ⟨rm_ (h := rf_ (rf_ (rf_ (rf_ (rf_ (rf_ (rt_ (rt_ HO_760003.out BK823) BK820)))))))⟩, ⟨rm_ (h := rf_ (rf_ (rf_ (rf_ (rf_ (rf_ (rt_ (rt_ HO_760004.out BK823) BK820)))))))⟩, ⟨rm_ (h := rf_ (rf_ (rf_ (rf_ (rf_ (rf_ (rt_ (rt_ HO_760005.out BK823) BK820)))))))⟩, ⟨rm_ (h := rf_ (rf_ (rf_ (rf_ (rf_ (rf_ (rt_ (rt_ HO_775003.out BK823) BK820)))))))⟩, ⟨rm_ (h := rf_ (rf_ (rf_ (rf_ (rf_ (rf_ (rt_ (rt_ HO_775004.out BK823) BK820)))))))⟩, ⟨rm_ (h := rf_ (rf_ (rf_ (rf_ (rf_ (rf_ (rt_ (rt_ HO_775005.out BK823) BK820)))))))⟩, ⟨kq_ (h := bf_ (hn := NB744_820) (h := bf_ (hn := NB744_820) (h := bf_ (hn := NB744_820) (h := bf_ (hn := NB744_823) (h := bf_ (hn := NB744_823) (h := bf_ (hn := NB744_823) (h := BK744.out)))))))⟩, ⟨kq_ (h := bf_ (hn := NB759_820) (h := bf_ (hn := NB759_820) (h := bf_ (hn := NB759_820) (h := bf_ (hn := NB759_823) (h := bf_ (hn := NB759_823) (h := bf_ (hn := NB759_823) (h := BK759.out)))))))⟩, ⟨kq_ (h := bf_ (hn := NB774_820) (h := bf_ (hn := NB774_820) (h := bf_ (hn := NB774_820) (h := bf_ (hn := NB774_823) (h := bf_ (hn := NB774_823) (h := bf_ (hn := NB774_823) (h := BK774.out)))))))⟩, ⟨kq_ (h := bp_ (h := bp_ (h := bp_ (h := bf_ (hn := NB820_823) (h := bf_ (hn := NB820_823) (h := bf_ (hn := NB820_823) (h := BK820.out)))))))⟩, ⟨hb_ HB⟩⟩
        )
        exact p8_
       refine ?z9_
       let rec p9_ : type_of% ?z9_ := by(
       rw [if_neg c229] at H
       have c229b0 : decide (0 < ((rd_T29 t775 (rd t791 x184_2)).f0)) = false := decide_eq_false c229
       clear c229
       by_cases c250 : x821000_2 = 0
       ·rw [if_pos c250] at H
        have c250b0 : (x821000_2 == 0) = true := beq_iff_eq.mpr c250
        have c250b1 : (x821000_2 != 0) = false := bne_eq_false_iff_eq.mpr c250
        clear c250
        have H' := Aside0.mk H
        clear H
        obtain ⟨ad821, e821, hx821_0, p821, q821⟩ := ai_ (Kd.R_reads' HO_182.out).2.2 x184_2
        cases e821
        have p822 : 0 ≤ ((rd t791 x184_2) : Int) := of_decide_eq_true (by first | (with_reducible assumption) | assumption)
        have q822 : (rd t791 x184_2) < (t775.length : Int) := of_decide_eq_true (by first | (with_reducible assumption) | assumption)
        obtain ⟨ad822, e822, hx822_0, hx822_1, hx822_2⟩ := at_T29 (Kd.R_reads' HO_12.out).2.2 (rd t791 x184_2) p822 q822
        cases e822
        replace p822 := eq_true p822
        replace q822 := eq_true q822
        go_wp2_with (first | ((with_reducible refine gate_dst (N := 36) rfl ?_); refine bv_ 36 (cs := #[.int .i64 0, .int .i64 0, .int .i64 0]) (t := 29) ?_; intro gb823 hg w251 hbox hb; have BK823 := Aside0.mk (hbox); have GW823 := gs_ hg HB; have GE823 := gs_ hg HB; have NB744_823 := nl_ hg BK744; have NB823_744 := ng_ hg BK744; have NB759_823 := nl_ hg BK759; have NB823_759 := ng_ hg BK759; have NB774_823 := nl_ hg BK774; have NB823_774 := ng_ hg BK774; have NB820_823 := nl_ hg BK820; have NB823_820 := ng_ hg BK820; replace HO_12 := Aside0.mk (Kd.R_below (Kd.R_elderB (Kd.R_p HO_12) gb823 (Nat.le_of_eq hg.symm)) hb); replace HO_16 := Kd.R_b HO_16 hb; replace HO_20 := Kd.R_b HO_20 hb; replace HO_182 := Kd.R_b HO_182 hb; replace HO_745003 := Kd.R_b HO_745003 hb; replace HO_745004 := Kd.R_b HO_745004 hb; replace HO_745005 := Kd.R_b HO_745005 hb; replace HO_760003 := Kd.R_b HO_760003 hb; replace HO_760004 := Kd.R_b HO_760004 hb; replace HO_760005 := Kd.R_b HO_760005 hb; replace HO_775003 := Kd.R_b HO_775003 hb; replace HO_775004 := Kd.R_b HO_775004 hb; replace HO_775005 := Kd.R_b HO_775005 hb; replace BK744 := kb_ BK744 hb; replace BK759 := kb_ BK759 hb; replace BK774 := kb_ BK774 hb; replace BK820 := kb_ BK820 hb; replace HB := hbs_ HB hb; clear hb hbox hg; have := NB823_744.out; have := NB744_823.out; have := NB823_759.out; have := NB759_823.out; have := NB823_774.out; have := NB774_823.out; have := NB823_820.out; have := NB820_823.out; obtain ⟨hcz256_0, hcz256_1, hcz256_2, hfz256_0, hfz256_1, hfz256_2⟩ := bx3 BK823; have := NB820_744.out; have := NB744_820.out; have := NB820_759.out; have := NB759_820.out; have := NB820_774.out; have := NB774_820.out; obtain ⟨hcz260_0, hcz260_1, hcz260_2, hfz260_0, hfz260_1, hfz260_2⟩ := bx3 BK820))
        go_roundg k2
        case measure => have := HJ17.out; have := HK2.out; omega
        case rel => exact ⟨(wrap64 (x184_2 + 1)), ((rd_T29 t775 (rd t791 x184_2)).f0), ((rd_T29 t775 (rd t791 x184_2)).f1), ((rd_T29 t775 (rd t791 x184_2)).f2), (by first | rfl | (simp; done) | (simp [*]; done)), H', ⟨by have := HJ17.out; have := HK2.out; omega⟩, ⟨rm_ (h := rf_ (rf_ (rf_ (rf_ (rf_ (rf_ HO_12.out))))))⟩, ⟨rm_ (h := rf_ (rf_ (rf_ (rf_ (rf_ (rf_ (rt_ (rt_ HO_16.out BK823) BK820)))))))⟩, ⟨rm_ (h := rf_ (rf_ (rf_ (rf_ (rf_ (rf_ (rt_ (rt_ HO_20.out BK823) BK820)))))))⟩, ⟨rm_ (h := rf_ (rf_ (rf_ (rf_ (rf_ (rf_ (rt_ (rt_ HO_182.out BK823) BK820)))))))⟩, ⟨rm_ (h := rf_ (rf_ (rf_ (rf_ (rf_ (rf_ (rt_ (rt_ HO_745003.out BK823) BK820)))))))⟩, ⟨rm_ (h := rf_ (rf_ (rf_ (rf_ (rf_ (rf_ (rt_ (rt_ HO_745004.out BK823) BK820)))))))⟩, ⟨rm_ (h := rf_ (rf_ (rf_ (rf_ (rf_ (rf_ (rt_ (rt_ HO_745005.out BK823) BK820)))))))⟩, ⟨rm_ (h := rf_ (rf_ (rf_ (rf_ (rf_ (rf_ (rt_ (rt_ HO_760003.out BK823) BK820)))))))⟩, ⟨rm_ (h := rf_ (rf_ (rf_ (rf_ (rf_ (rf_ (rt_ (rt_ HO_760004.out BK823) BK820)))))))⟩, ⟨rm_ (h := rf_ (rf_ (rf_ (rf_ (rf_ (rf_ (rt_ (rt_ HO_760005.out BK823) BK820)))))))⟩, ⟨rm_ (h := rf_ (rf_ (rf_ (rf_ (rf_ (rf_ (rt_ (rt_ HO_775003.out BK823) BK820)))))))⟩, ⟨rm_ (h := rf_ (rf_ (rf_ (rf_ (rf_ (rf_ (rt_ (rt_ HO_775004.out BK823) BK820)))))))⟩, ⟨rm_ (h := rf_ (rf_ (rf_ (rf_ (rf_ (rf_ (rt_ (rt_ HO_775005.out BK823) BK820)))))))⟩, ⟨kq_ (h := bf_ (hn := NB744_820) (h := bf_ (hn := NB744_820) (h := bf_ (hn := NB744_820) (h := bf_ (hn := NB744_823) (h := bf_ (hn := NB744_823) (h := bf_ (hn := NB744_823) (h := BK744.out)))))))⟩, ⟨kq_ (h := bf_ (hn := NB759_820) (h := bf_ (hn := NB759_820) (h := bf_ (hn := NB759_820) (h := bf_ (hn := NB759_823) (h := bf_ (hn := NB759_823) (h := bf_ (hn := NB759_823) (h := BK759.out)))))))⟩, ⟨kq_ (h := bf_ (hn := NB774_820) (h := bf_ (hn := NB774_820) (h := bf_ (hn := NB774_820) (h := bf_ (hn := NB774_823) (h := bf_ (hn := NB774_823) (h := bf_ (hn := NB774_823) (h := BK774.out)))))))⟩, ⟨kq_ (h := bp_ (h := bp_ (h := bp_ (h := bf_ (hn := NB820_823) (h := bf_ (hn := NB820_823) (h := bf_ (hn := NB820_823) (h := BK820.out)))))))⟩, ⟨hb_ HB⟩⟩
       ·rw [if_neg c250] at H
        have c250b0 : (x821000_2 == 0) = false := beq_eq_false_iff_ne.mpr c250
        have c250b1 : (x821000_2 != 0) = true := bne_iff_ne.mpr c250
        have H' := Aside0.mk H
        clear H
        obtain ⟨ad821, e821, hx821_0, p821, q821⟩ := ai_ (Kd.R_reads' HO_182.out).2.2 x184_2
        cases e821
        have p822 : 0 ≤ ((rd t791 x184_2) : Int) := of_decide_eq_true (by first | (with_reducible assumption) | assumption)
        have q822 : (rd t791 x184_2) < (t775.length : Int) := of_decide_eq_true (by first | (with_reducible assumption) | assumption)
        obtain ⟨ad822, e822, hx822_0, hx822_1, hx822_2⟩ := at_T29 (Kd.R_reads' HO_12.out).2.2 (rd t791 x184_2) p822 q822
        cases e822
        replace p822 := eq_true p822
        replace q822 := eq_true q822
        go_wp2_with (first | ((with_reducible refine gate_dst (N := 36) rfl ?_); refine bv_ 36 (cs := #[.int .i64 0, .int .i64 0, .int .i64 0]) (t := 29) ?_; intro gb823 hg w261 hbox hb; have BK823 := Aside0.mk (hbox); have GW823 := gs_ hg HB; have GE823 := gs_ hg HB; have NB744_823 := nl_ hg BK744; have NB823_744 := ng_ hg BK744; have NB759_823 := nl_ hg BK759; have NB823_759 := ng_ hg BK759; have NB774_823 := nl_ hg BK774; have NB823_774 := ng_ hg BK774; have NB820_823 := nl_ hg BK820; have NB823_820 := ng_ hg BK820; replace HO_12 := Aside0.mk (Kd.R_below (Kd.R_elderB (Kd.R_p HO_12) gb823 (Nat.le_of_eq hg.symm)) hb); replace HO_16 := Kd.R_b HO_16 hb; replace HO_20 := Kd.R_b HO_20 hb; replace HO_182 := Kd.R_b HO_182 hb; replace HO_745003 := Kd.R_b HO_745003 hb; replace HO_745004 := Kd.R_b HO_745004 hb; replace HO_745005 := Kd.R_b HO_745005 hb; replace HO_760003 := Kd.R_b HO_760003 hb; replace HO_760004 := Kd.R_b HO_760004 hb; replace HO_760005 := Kd.R_b HO_760005 hb; replace HO_775003 := Kd.R_b HO_775003 hb; replace HO_775004 := Kd.R_b HO_775004 hb; replace HO_775005 := Kd.R_b HO_775005 hb; replace BK744 := kb_ BK744 hb; replace BK759 := kb_ BK759 hb; replace BK774 := kb_ BK774 hb; replace BK820 := kb_ BK820 hb; replace HB := hbs_ HB hb; clear hb hbox hg; have := NB823_744.out; have := NB744_823.out; have := NB823_759.out; have := NB759_823.out; have := NB823_774.out; have := NB774_823.out; have := NB823_820.out; have := NB820_823.out; obtain ⟨hcz266_0, hcz266_1, hcz266_2, hfz266_0, hfz266_1, hfz266_2⟩ := bx3 BK823; have := NB820_744.out; have := NB744_820.out; have := NB820_759.out; have := NB759_820.out; have := NB820_774.out; have := NB774_820.out; obtain ⟨hcz270_0, hcz270_1, hcz270_2, hfz270_0, hfz270_1, hfz270_2⟩ := bx3 BK820))
        go_roundg k2
        case measure => have := HJ17.out; have := HK2.out; omega
        case rel => exact ⟨(wrap64 (x184_2 + 1)), ((rd_T29 t775 (rd t791 x184_2)).f0), ((rd_T29 t775 (rd t791 x184_2)).f1), ((rd_T29 t775 (rd t791 x184_2)).f2), (by first | rfl | (simp; done) | (simp [*]; done)), H', ⟨by have := HJ17.out; have := HK2.out; omega⟩, ⟨rm_ (h := rf_ (rf_ (rf_ (rf_ (rf_ (rf_ HO_12.out))))))⟩, ⟨rm_ (h := rf_ (rf_ (rf_ (rf_ (rf_ (rf_ (rt_ (rt_ HO_16.out BK823) BK820)))))))⟩, ⟨rm_ (h := rf_ (rf_ (rf_ (rf_ (rf_ (rf_ (rt_ (rt_ HO_20.out BK823) BK820)))))))⟩, ⟨rm_ (h := rf_ (rf_ (rf_ (rf_ (rf_ (rf_ (rt_ (rt_ HO_182.out BK823) BK820)))))))⟩, ⟨rm_ (h := rf_ (rf_ (rf_ (rf_ (rf_ (rf_ (rt_ (rt_ HO_745003.out BK823) BK820)))))))⟩, ⟨rm_ (h := rf_ (rf_ (rf_ (rf_ (rf_ (rf_ (rt_ (rt_ HO_745004.out BK823) BK820)))))))⟩, ⟨rm_ (h := rf_ (rf_ (rf_ (rf_ (rf_ (rf_ (rt_ (rt_ HO_745005.out BK823) BK820)))))))⟩, ⟨rm_ (h := rf_ (rf_ (rf_ (rf_ (rf_ (rf_ (rt_ (rt_ HO_760003.out BK823) BK820)))))))⟩, ⟨rm_ (h := rf_ (rf_ (rf_ (rf_ (rf_ (rf_ (rt_ (rt_ HO_760004.out BK823) BK820)))))))⟩, ⟨rm_ (h := rf_ (rf_ (rf_ (rf_ (rf_ (rf_ (rt_ (rt_ HO_760005.out BK823) BK820)))))))⟩, ⟨rm_ (h := rf_ (rf_ (rf_ (rf_ (rf_ (rf_ (rt_ (rt_ HO_775003.out BK823) BK820)))))))⟩, ⟨rm_ (h := rf_ (rf_ (rf_ (rf_ (rf_ (rf_ (rt_ (rt_ HO_775004.out BK823) BK820)))))))⟩, ⟨rm_ (h := rf_ (rf_ (rf_ (rf_ (rf_ (rf_ (rt_ (rt_ HO_775005.out BK823) BK820)))))))⟩, ⟨kq_ (h := bf_ (hn := NB744_820) (h := bf_ (hn := NB744_820) (h := bf_ (hn := NB744_820) (h := bf_ (hn := NB744_823) (h := bf_ (hn := NB744_823) (h := bf_ (hn := NB744_823) (h := BK744.out)))))))⟩, ⟨kq_ (h := bf_ (hn := NB759_820) (h := bf_ (hn := NB759_820) (h := bf_ (hn := NB759_820) (h := bf_ (hn := NB759_823) (h := bf_ (hn := NB759_823) (h := bf_ (hn := NB759_823) (h := BK759.out)))))))⟩, ⟨kq_ (h := bf_ (hn := NB774_820) (h := bf_ (hn := NB774_820) (h := bf_ (hn := NB774_820) (h := bf_ (hn := NB774_823) (h := bf_ (hn := NB774_823) (h := bf_ (hn := NB774_823) (h := BK774.out)))))))⟩, ⟨kq_ (h := bp_ (h := bp_ (h := bp_ (h := bf_ (hn := NB820_823) (h := bf_ (hn := NB820_823) (h := bf_ (hn := NB820_823) (h := BK820.out)))))))⟩, ⟨hb_ HB⟩⟩
       )
       exact p9_
      refine ?z10_
      let rec p10_ : type_of% ?z10_ := by(
      rw [if_neg c228] at H
      have c228b0 : decide (0 < x821000_2) = false := decide_eq_false c228
      clear c228
      by_cases c271 : x821000_2 = 0
      ·refine ?z11_
       let rec p11_ : type_of% ?z11_ := by(
       rw [if_pos c271] at H
       have c271b0 : (x821000_2 == 0) = true := beq_iff_eq.mpr c271
       have c271b1 : (x821000_2 != 0) = false := bne_eq_false_iff_eq.mpr c271
       clear c271
       by_cases c272 : ((rd_T29 t775 (rd t791 x184_2)).f0) > 0
       ·rw [if_pos c272] at H
        have c272b0 : decide (0 < ((rd_T29 t775 (rd t791 x184_2)).f0)) = true := decide_eq_true c272
        clear c272
        obtain rfl := Option.some.inj H
        obtain ⟨ad821, e821, hx821_0, p821, q821⟩ := ai_ (Kd.R_reads' HO_182.out).2.2 x184_2
        cases e821
        have p822 : 0 ≤ ((rd t791 x184_2) : Int) := of_decide_eq_true (by first | (with_reducible assumption) | assumption)
        have q822 : (rd t791 x184_2) < (t775.length : Int) := of_decide_eq_true (by first | (with_reducible assumption) | assumption)
        obtain ⟨ad822, e822, hx822_0, hx822_1, hx822_2⟩ := at_T29 (Kd.R_reads' HO_12.out).2.2 (rd t791 x184_2) p822 q822
        cases e822
        replace p822 := eq_true p822
        replace q822 := eq_true q822
        go_wp2_with (first | ((with_reducible refine gate_dst (N := 36) rfl ?_); refine bv_ 36 (cs := #[.int .i64 0, .int .i64 0, .int .i64 0]) (t := 29) ?_; intro gb823 hg w273 hbox hb; have BK823 := Aside0.mk (hbox); have GW823 := gs_ hg HB; have GE823 := gs_ hg HB; have NB820_823 := nl_ hg BK820; have NB823_820 := ng_ hg BK820; replace HO_12 := Aside0.mk (Kd.R_below (Kd.R_elderB (Kd.R_p HO_12) gb823 (Nat.le_of_eq hg.symm)) hb); replace HO_16 := Kd.R_b HO_16 hb; replace HO_20 := Kd.R_b HO_20 hb; replace HO_182 := Kd.R_b HO_182 hb; replace HO_745003 := Kd.R_b HO_745003 hb; replace HO_745004 := Kd.R_b HO_745004 hb; replace HO_745005 := Kd.R_b HO_745005 hb; replace HO_760003 := Kd.R_b HO_760003 hb; replace HO_760004 := Kd.R_b HO_760004 hb; replace HO_760005 := Kd.R_b HO_760005 hb; replace HO_775003 := Kd.R_b HO_775003 hb; replace HO_775004 := Kd.R_b HO_775004 hb; replace HO_775005 := Kd.R_b HO_775005 hb; replace BK820 := kb_ BK820 hb; replace HB := hbs_ HB hb; clear hb hbox hg; have := NB823_820.out; have := NB820_823.out; obtain ⟨hcz275_0, hcz275_1, hcz275_2, hfz275_0, hfz275_1, hfz275_2⟩ := bx3 BK823; obtain ⟨hcz276_0, hcz276_1, hcz276_2, hfz276_0, hfz276_1, hfz276_2⟩ := bx3 BK820))
        go_ret
        exact ad_ (hb_ HB)
       ·rw [if_neg c272] at H
        have c272b0 : decide (0 < ((rd_T29 t775 (rd t791 x184_2)).f0)) = false := decide_eq_false c272
        clear c272
        have H' := Aside0.mk H
        clear H
        obtain ⟨ad821, e821, hx821_0, p821, q821⟩ := ai_ (Kd.R_reads' HO_182.out).2.2 x184_2
        cases e821
        have p822 : 0 ≤ ((rd t791 x184_2) : Int) := of_decide_eq_true (by first | (with_reducible assumption) | assumption)
        have q822 : (rd t791 x184_2) < (t775.length : Int) := of_decide_eq_true (by first | (with_reducible assumption) | assumption)
        obtain ⟨ad822, e822, hx822_0, hx822_1, hx822_2⟩ := at_T29 (Kd.R_reads' HO_12.out).2.2 (rd t791 x184_2) p822 q822
        cases e822
        replace p822 := eq_true p822
        replace q822 := eq_true q822
        go_wp2_with (first | ((with_reducible refine gate_dst (N := 36) rfl ?_); refine bv_ 36 (cs := #[.int .i64 0, .int .i64 0, .int .i64 0]) (t := 29) ?_; intro gb823 hg w277 hbox hb; have BK823 := Aside0.mk (hbox); have GW823 := gs_ hg HB; have GE823 := gs_ hg HB; have NB744_823 := nl_ hg BK744; have NB823_744 := ng_ hg BK744; have NB759_823 := nl_ hg BK759; have NB823_759 := ng_ hg BK759; have NB774_823 := nl_ hg BK774; have NB823_774 := ng_ hg BK774; have NB820_823 := nl_ hg BK820; have NB823_820 := ng_ hg BK820; replace HO_12 := Aside0.mk (Kd.R_below (Kd.R_elderB (Kd.R_p HO_12) gb823 (Nat.le_of_eq hg.symm)) hb); replace HO_16 := Kd.R_b HO_16 hb; replace HO_20 := Kd.R_b HO_20 hb; replace HO_182 := Kd.R_b HO_182 hb; replace HO_745003 := Kd.R_b HO_745003 hb; replace HO_745004 := Kd.R_b HO_745004 hb; replace HO_745005 := Kd.R_b HO_745005 hb; replace HO_760003 := Kd.R_b HO_760003 hb; replace HO_760004 := Kd.R_b HO_760004 hb; replace HO_760005 := Kd.R_b HO_760005 hb; replace HO_775003 := Kd.R_b HO_775003 hb; replace HO_775004 := Kd.R_b HO_775004 hb; replace HO_775005 := Kd.R_b HO_775005 hb; replace BK744 := kb_ BK744 hb; replace BK759 := kb_ BK759 hb; replace BK774 := kb_ BK774 hb; replace BK820 := kb_ BK820 hb; replace HB := hbs_ HB hb; clear hb hbox hg; have := NB823_744.out; have := NB744_823.out; have := NB823_759.out; have := NB759_823.out; have := NB823_774.out; have := NB774_823.out; have := NB823_820.out; have := NB820_823.out; obtain ⟨hcz282_0, hcz282_1, hcz282_2, hfz282_0, hfz282_1, hfz282_2⟩ := bx3 BK823; have := NB820_744.out; have := NB744_820.out; have := NB820_759.out; have := NB759_820.out; have := NB820_774.out; have := NB774_820.out; obtain ⟨hcz286_0, hcz286_1, hcz286_2, hfz286_0, hfz286_1, hfz286_2⟩ := bx3 BK820))
        go_roundg k2
        case measure => have := HJ17.out; have := HK2.out; omega
        case rel => exact ⟨(wrap64 (x184_2 + 1)), ((rd_T29 t775 (rd t791 x184_2)).f0), ((rd_T29 t775 (rd t791 x184_2)).f1), ((rd_T29 t775 (rd t791 x184_2)).f2), (by first | rfl | (simp; done) | (simp [*]; done)), H', ⟨by have := HJ17.out; have := HK2.out; omega⟩, ⟨rm_ (h := rf_ (rf_ (rf_ (rf_ (rf_ (rf_ HO_12.out))))))⟩, ⟨rm_ (h := rf_ (rf_ (rf_ (rf_ (rf_ (rf_ (rt_ (rt_ HO_16.out BK823) BK820)))))))⟩, ⟨rm_ (h := rf_ (rf_ (rf_ (rf_ (rf_ (rf_ (rt_ (rt_ HO_20.out BK823) BK820)))))))⟩, ⟨rm_ (h := rf_ (rf_ (rf_ (rf_ (rf_ (rf_ (rt_ (rt_ HO_182.out BK823) BK820)))))))⟩, ⟨rm_ (h := rf_ (rf_ (rf_ (rf_ (rf_ (rf_ (rt_ (rt_ HO_745003.out BK823) BK820)))))))⟩, ⟨rm_ (h := rf_ (rf_ (rf_ (rf_ (rf_ (rf_ (rt_ (rt_ HO_745004.out BK823) BK820)))))))⟩, ⟨rm_ (h := rf_ (rf_ (rf_ (rf_ (rf_ (rf_ (rt_ (rt_ HO_745005.out BK823) BK820)))))))⟩, ⟨rm_ (h := rf_ (rf_ (rf_ (rf_ (rf_ (rf_ (rt_ (rt_ HO_760003.out BK823) BK820)))))))⟩, ⟨rm_ (h := rf_ (rf_ (rf_ (rf_ (rf_ (rf_ (rt_ (rt_ HO_760004.out BK823) BK820)))))))⟩, ⟨rm_ (h := rf_ (rf_ (rf_ (rf_ (rf_ (rf_ (rt_ (rt_ HO_760005.out BK823) BK820)))))))⟩, ⟨rm_ (h := rf_ (rf_ (rf_ (rf_ (rf_ (rf_ (rt_ (rt_ HO_775003.out BK823) BK820)))))))⟩, ⟨rm_ (h := rf_ (rf_ (rf_ (rf_ (rf_ (rf_ (rt_ (rt_ HO_775004.out BK823) BK820)))))))⟩, ⟨rm_ (h := rf_ (rf_ (rf_ (rf_ (rf_ (rf_ (rt_ (rt_ HO_775005.out BK823) BK820)))))))⟩, ⟨kq_ (h := bf_ (hn := NB744_820) (h := bf_ (hn := NB744_820) (h := bf_ (hn := NB744_820) (h := bf_ (hn := NB744_823) (h := bf_ (hn := NB744_823) (h := bf_ (hn := NB744_823) (h := BK744.out)))))))⟩, ⟨kq_ (h := bf_ (hn := NB759_820) (h := bf_ (hn := NB759_820) (h := bf_ (hn := NB759_820) (h := bf_ (hn := NB759_823) (h := bf_ (hn := NB759_823) (h := bf_ (hn := NB759_823) (h := BK759.out)))))))⟩, ⟨kq_ (h := bf_ (hn := NB774_820) (h := bf_ (hn := NB774_820) (h := bf_ (hn := NB774_820) (h := bf_ (hn := NB774_823) (h := bf_ (hn := NB774_823) (h := bf_ (hn := NB774_823) (h := BK774.out)))))))⟩, ⟨kq_ (h := bp_ (h := bp_ (h := bp_ (h := bf_ (hn := NB820_823) (h := bf_ (hn := NB820_823) (h := bf_ (hn := NB820_823) (h := BK820.out)))))))⟩, ⟨hb_ HB⟩⟩
       )
       exact p11_
      ·rw [if_neg c271] at H
       have c271b0 : (x821000_2 == 0) = false := beq_eq_false_iff_ne.mpr c271
       have c271b1 : (x821000_2 != 0) = true := bne_iff_ne.mpr c271
       have H' := Aside0.mk H
       clear H
       obtain ⟨ad821, e821, hx821_0, p821, q821⟩ := ai_ (Kd.R_reads' HO_182.out).2.2 x184_2
       cases e821
       have p822 : 0 ≤ ((rd t791 x184_2) : Int) := of_decide_eq_true (by first | (with_reducible assumption) | assumption)
       have q822 : (rd t791 x184_2) < (t775.length : Int) := of_decide_eq_true (by first | (with_reducible assumption) | assumption)
       obtain ⟨ad822, e822, hx822_0, hx822_1, hx822_2⟩ := at_T29 (Kd.R_reads' HO_12.out).2.2 (rd t791 x184_2) p822 q822
       cases e822
       replace p822 := eq_true p822
       replace q822 := eq_true q822
       go_wp2_with (first | ((with_reducible refine gate_dst (N := 36) rfl ?_); refine bv_ 36 (cs := #[.int .i64 0, .int .i64 0, .int .i64 0]) (t := 29) ?_; intro gb823 hg w287 hbox hb; have BK823 := Aside0.mk (hbox); have GW823 := gs_ hg HB; have GE823 := gs_ hg HB; have NB744_823 := nl_ hg BK744; have NB823_744 := ng_ hg BK744; have NB759_823 := nl_ hg BK759; have NB823_759 := ng_ hg BK759; have NB774_823 := nl_ hg BK774; have NB823_774 := ng_ hg BK774; have NB820_823 := nl_ hg BK820; have NB823_820 := ng_ hg BK820; replace HO_12 := Aside0.mk (Kd.R_below (Kd.R_elderB (Kd.R_p HO_12) gb823 (Nat.le_of_eq hg.symm)) hb); replace HO_16 := Kd.R_b HO_16 hb; replace HO_20 := Kd.R_b HO_20 hb; replace HO_182 := Kd.R_b HO_182 hb; replace HO_745003 := Kd.R_b HO_745003 hb; replace HO_745004 := Kd.R_b HO_745004 hb; replace HO_745005 := Kd.R_b HO_745005 hb; replace HO_760003 := Kd.R_b HO_760003 hb; replace HO_760004 := Kd.R_b HO_760004 hb; replace HO_760005 := Kd.R_b HO_760005 hb; replace HO_775003 := Kd.R_b HO_775003 hb; replace HO_775004 := Kd.R_b HO_775004 hb; replace HO_775005 := Kd.R_b HO_775005 hb; replace BK744 := kb_ BK744 hb; replace BK759 := kb_ BK759 hb; replace BK774 := kb_ BK774 hb; replace BK820 := kb_ BK820 hb; replace HB := hbs_ HB hb; clear hb hbox hg; have := NB823_744.out; have := NB744_823.out; have := NB823_759.out; have := NB759_823.out; have := NB823_774.out; have := NB774_823.out; have := NB823_820.out; have := NB820_823.out; obtain ⟨hcz292_0, hcz292_1, hcz292_2, hfz292_0, hfz292_1, hfz292_2⟩ := bx3 BK823; have := NB820_744.out; have := NB744_820.out; have := NB820_759.out; have := NB759_820.out; have := NB820_774.out; have := NB774_820.out; obtain ⟨hcz296_0, hcz296_1, hcz296_2, hfz296_0, hfz296_1, hfz296_2⟩ := bx3 BK820))
       go_roundg k2
       case measure => have := HJ17.out; have := HK2.out; omega
       case rel => exact ⟨(wrap64 (x184_2 + 1)), ((rd_T29 t775 (rd t791 x184_2)).f0), ((rd_T29 t775 (rd t791 x184_2)).f1), ((rd_T29 t775 (rd t791 x184_2)).f2), (by first | rfl | (simp; done) | (simp [*]; done)), H', ⟨by have := HJ17.out; have := HK2.out; omega⟩, ⟨rm_ (h := rf_ (rf_ (rf_ (rf_ (rf_ (rf_ HO_12.out))))))⟩, ⟨rm_ (h := rf_ (rf_ (rf_ (rf_ (rf_ (rf_ (rt_ (rt_ HO_16.out BK823) BK820)))))))⟩, ⟨rm_ (h := rf_ (rf_ (rf_ (rf_ (rf_ (rf_ (rt_ (rt_ HO_20.out BK823) BK820)))))))⟩, ⟨rm_ (h := rf_ (rf_ (rf_ (rf_ (rf_ (rf_ (rt_ (rt_ HO_182.out BK823) BK820)))))))⟩, ⟨rm_ (h := rf_ (rf_ (rf_ (rf_ (rf_ (rf_ (rt_ (rt_ HO_745003.out BK823) BK820)))))))⟩, ⟨rm_ (h := rf_ (rf_ (rf_ (rf_ (rf_ (rf_ (rt_ (rt_ HO_745004.out BK823) BK820)))))))⟩, ⟨rm_ (h := rf_ (rf_ (rf_ (rf_ (rf_ (rf_ (rt_ (rt_ HO_745005.out BK823) BK820)))))))⟩, ⟨rm_ (h := rf_ (rf_ (rf_ (rf_ (rf_ (rf_ (rt_ (rt_ HO_760003.out BK823) BK820)))))))⟩, ⟨rm_ (h := rf_ (rf_ (rf_ (rf_ (rf_ (rf_ (rt_ (rt_ HO_760004.out BK823) BK820)))))))⟩, ⟨rm_ (h := rf_ (rf_ (rf_ (rf_ (rf_ (rf_ (rt_ (rt_ HO_760005.out BK823) BK820)))))))⟩, ⟨rm_ (h := rf_ (rf_ (rf_ (rf_ (rf_ (rf_ (rt_ (rt_ HO_775003.out BK823) BK820)))))))⟩, ⟨rm_ (h := rf_ (rf_ (rf_ (rf_ (rf_ (rf_ (rt_ (rt_ HO_775004.out BK823) BK820)))))))⟩, ⟨rm_ (h := rf_ (rf_ (rf_ (rf_ (rf_ (rf_ (rt_ (rt_ HO_775005.out BK823) BK820)))))))⟩, ⟨kq_ (h := bf_ (hn := NB744_820) (h := bf_ (hn := NB744_820) (h := bf_ (hn := NB744_820) (h := bf_ (hn := NB744_823) (h := bf_ (hn := NB744_823) (h := bf_ (hn := NB744_823) (h := BK744.out)))))))⟩, ⟨kq_ (h := bf_ (hn := NB759_820) (h := bf_ (hn := NB759_820) (h := bf_ (hn := NB759_820) (h := bf_ (hn := NB759_823) (h := bf_ (hn := NB759_823) (h := bf_ (hn := NB759_823) (h := BK759.out)))))))⟩, ⟨kq_ (h := bf_ (hn := NB774_820) (h := bf_ (hn := NB774_820) (h := bf_ (hn := NB774_820) (h := bf_ (hn := NB774_823) (h := bf_ (hn := NB774_823) (h := bf_ (hn := NB774_823) (h := BK774.out)))))))⟩, ⟨kq_ (h := bp_ (h := bp_ (h := bp_ (h := bf_ (hn := NB820_823) (h := bf_ (hn := NB820_823) (h := bf_ (hn := NB820_823) (h := BK820.out)))))))⟩, ⟨hb_ HB⟩⟩
      )
      exact p10_
     ·rw [if_neg c227] at H
      have c227b0 : decide (0 < x184_2) = false := decide_eq_false c227
      clear c227
      have H' := Aside0.mk H
      clear H
      obtain ⟨ad821, e821, hx821_0, p821, q821⟩ := ai_ (Kd.R_reads' HO_182.out).2.2 x184_2
      cases e821
      have p822 : 0 ≤ ((rd t791 x184_2) : Int) := of_decide_eq_true (by first | (with_reducible assumption) | assumption)
      have q822 : (rd t791 x184_2) < (t775.length : Int) := of_decide_eq_true (by first | (with_reducible assumption) | assumption)
      obtain ⟨ad822, e822, hx822_0, hx822_1, hx822_2⟩ := at_T29 (Kd.R_reads' HO_12.out).2.2 (rd t791 x184_2) p822 q822
      cases e822
      replace p822 := eq_true p822
      replace q822 := eq_true q822
      go_wp2_with (first | ((with_reducible refine gate_dst (N := 36) rfl ?_); refine bv_ 36 (cs := #[.int .i64 0, .int .i64 0, .int .i64 0]) (t := 29) ?_; intro gb823 hg w297 hbox hb; have BK823 := Aside0.mk (hbox); have GW823 := gs_ hg HB; have GE823 := gs_ hg HB; have NB744_823 := nl_ hg BK744; have NB823_744 := ng_ hg BK744; have NB759_823 := nl_ hg BK759; have NB823_759 := ng_ hg BK759; have NB774_823 := nl_ hg BK774; have NB823_774 := ng_ hg BK774; have NB820_823 := nl_ hg BK820; have NB823_820 := ng_ hg BK820; replace HO_12 := Aside0.mk (Kd.R_below (Kd.R_elderB (Kd.R_p HO_12) gb823 (Nat.le_of_eq hg.symm)) hb); replace HO_16 := Kd.R_b HO_16 hb; replace HO_20 := Kd.R_b HO_20 hb; replace HO_182 := Kd.R_b HO_182 hb; replace HO_745003 := Kd.R_b HO_745003 hb; replace HO_745004 := Kd.R_b HO_745004 hb; replace HO_745005 := Kd.R_b HO_745005 hb; replace HO_760003 := Kd.R_b HO_760003 hb; replace HO_760004 := Kd.R_b HO_760004 hb; replace HO_760005 := Kd.R_b HO_760005 hb; replace HO_775003 := Kd.R_b HO_775003 hb; replace HO_775004 := Kd.R_b HO_775004 hb; replace HO_775005 := Kd.R_b HO_775005 hb; replace BK744 := kb_ BK744 hb; replace BK759 := kb_ BK759 hb; replace BK774 := kb_ BK774 hb; replace BK820 := kb_ BK820 hb; replace HB := hbs_ HB hb; clear hb hbox hg; have := NB823_744.out; have := NB744_823.out; have := NB823_759.out; have := NB759_823.out; have := NB823_774.out; have := NB774_823.out; have := NB823_820.out; have := NB820_823.out; obtain ⟨hcz302_0, hcz302_1, hcz302_2, hfz302_0, hfz302_1, hfz302_2⟩ := bx3 BK823; have := NB820_744.out; have := NB744_820.out; have := NB820_759.out; have := NB759_820.out; have := NB820_774.out; have := NB774_820.out; obtain ⟨hcz306_0, hcz306_1, hcz306_2, hfz306_0, hfz306_1, hfz306_2⟩ := bx3 BK820))
      go_roundg k2
      case measure => have := HJ17.out; have := HK2.out; omega
      case rel => exact ⟨(wrap64 (x184_2 + 1)), ((rd_T29 t775 (rd t791 x184_2)).f0), ((rd_T29 t775 (rd t791 x184_2)).f1), ((rd_T29 t775 (rd t791 x184_2)).f2), (by first | rfl | (simp; done) | (simp [*]; done)), H', ⟨by have := HJ17.out; have := HK2.out; omega⟩, ⟨rm_ (h := rf_ (rf_ (rf_ (rf_ (rf_ (rf_ HO_12.out))))))⟩, ⟨rm_ (h := rf_ (rf_ (rf_ (rf_ (rf_ (rf_ (rt_ (rt_ HO_16.out BK823) BK820)))))))⟩, ⟨rm_ (h := rf_ (rf_ (rf_ (rf_ (rf_ (rf_ (rt_ (rt_ HO_20.out BK823) BK820)))))))⟩, ⟨rm_ (h := rf_ (rf_ (rf_ (rf_ (rf_ (rf_ (rt_ (rt_ HO_182.out BK823) BK820)))))))⟩, ⟨rm_ (h := rf_ (rf_ (rf_ (rf_ (rf_ (rf_ (rt_ (rt_ HO_745003.out BK823) BK820)))))))⟩, ⟨rm_ (h := rf_ (rf_ (rf_ (rf_ (rf_ (rf_ (rt_ (rt_ HO_745004.out BK823) BK820)))))))⟩, ⟨rm_ (h := rf_ (rf_ (rf_ (rf_ (rf_ (rf_ (rt_ (rt_ HO_745005.out BK823) BK820)))))))⟩, ⟨rm_ (h := rf_ (rf_ (rf_ (rf_ (rf_ (rf_ (rt_ (rt_ HO_760003.out BK823) BK820)))))))⟩, ⟨rm_ (h := rf_ (rf_ (rf_ (rf_ (rf_ (rf_ (rt_ (rt_ HO_760004.out BK823) BK820)))))))⟩, ⟨rm_ (h := rf_ (rf_ (rf_ (rf_ (rf_ (rf_ (rt_ (rt_ HO_760005.out BK823) BK820)))))))⟩, ⟨rm_ (h := rf_ (rf_ (rf_ (rf_ (rf_ (rf_ (rt_ (rt_ HO_775003.out BK823) BK820)))))))⟩, ⟨rm_ (h := rf_ (rf_ (rf_ (rf_ (rf_ (rf_ (rt_ (rt_ HO_775004.out BK823) BK820)))))))⟩, ⟨rm_ (h := rf_ (rf_ (rf_ (rf_ (rf_ (rf_ (rt_ (rt_ HO_775005.out BK823) BK820)))))))⟩, ⟨kq_ (h := bf_ (hn := NB744_820) (h := bf_ (hn := NB744_820) (h := bf_ (hn := NB744_820) (h := bf_ (hn := NB744_823) (h := bf_ (hn := NB744_823) (h := bf_ (hn := NB744_823) (h := BK744.out)))))))⟩, ⟨kq_ (h := bf_ (hn := NB759_820) (h := bf_ (hn := NB759_820) (h := bf_ (hn := NB759_820) (h := bf_ (hn := NB759_823) (h := bf_ (hn := NB759_823) (h := bf_ (hn := NB759_823) (h := BK759.out)))))))⟩, ⟨kq_ (h := bf_ (hn := NB774_820) (h := bf_ (hn := NB774_820) (h := bf_ (hn := NB774_820) (h := bf_ (hn := NB774_823) (h := bf_ (hn := NB774_823) (h := bf_ (hn := NB774_823) (h := BK774.out)))))))⟩, ⟨kq_ (h := bp_ (h := bp_ (h := bp_ (h := bf_ (hn := NB820_823) (h := bf_ (hn := NB820_823) (h := bf_ (hn := NB820_823) (h := BK820.out)))))))⟩, ⟨hb_ HB⟩⟩
     )
     exact p7_
    rw [if_neg c222] at H
    have c222b0 := decide_eq_false c222
    clear c222
    (first | rw [c222b0] | (simp only [i64_w, i32_w]; rw [c222b0]) | skip)
    by_cases c307 : (t791.length : Int) = (t775.length : Int)
    case neg => rw [if_neg c307] at H; have c307b0 : ((t791.length : Int) == (t775.length : Int)) = false := beq_eq_false_iff_ne.mpr c307; have c307b1 : ((t791.length : Int) != (t775.length : Int)) = true := bne_iff_ne.mpr c307; (have c307b2 : (t791.length == t775.length) = false := by first | simpa using c307 | (simp at c307 ⊢; omega)); obtain rfl := Option.some.inj H; go_wp2; go_ret; exact ad_ (hb_ HB)
    rw [if_pos c307] at H
    have c307b0 : ((t791.length : Int) == (t775.length : Int)) = true := beq_iff_eq.mpr c307
    have c307b1 : ((t791.length : Int) != (t775.length : Int)) = false := bne_eq_false_iff_eq.mpr c307
    have c307b2 : (t791.length == t775.length) = true := by first | simpa using c307 | (simp at c307 ⊢; omega)
    clear c307
    have H' := Aside0.mk H
    clear H
    go_wp2
    go_meet
    case rel => exact ⟨_, H', ⟨by have := HJ17.out; have := HK2.out; first | omega | exact Nat.le_refl _⟩, ⟨rm_ (h := HO_12.out)⟩, ⟨rm_ (h := HO_16.out)⟩, ⟨rm_ (h := HO_745003.out)⟩, ⟨rm_ (h := HO_745004.out)⟩, ⟨rm_ (h := HO_745005.out)⟩, ⟨rm_ (h := HO_760003.out)⟩, ⟨rm_ (h := HO_760004.out)⟩, ⟨rm_ (h := HO_760005.out)⟩, ⟨rm_ (h := HO_775003.out)⟩, ⟨rm_ (h := HO_775004.out)⟩, ⟨rm_ (h := HO_775005.out)⟩, ⟨kp_ BK744⟩, ⟨kp_ BK759⟩, ⟨kp_ BK774⟩, ⟨hb_ HB⟩⟩
   )
   exact p6_
  replace c215 := Bool.eq_false_iff.mpr c215
  subst c215
  rw [if_neg (show ¬ (false = true) by decide)] at H
  have H' := Aside0.mk H
  clear H
  go_wp2
  go_meet
  case rel => exact ⟨_, H', ⟨by have := HJ17.out; first | omega | exact Nat.le_refl _⟩, ⟨Kd.R_p HO_12⟩, ⟨rm_ (h := HO_16.out)⟩, ⟨rm_ (h := HO_745003.out)⟩, ⟨rm_ (h := HO_745004.out)⟩, ⟨rm_ (h := HO_745005.out)⟩, ⟨rm_ (h := HO_760003.out)⟩, ⟨rm_ (h := HO_760004.out)⟩, ⟨rm_ (h := HO_760005.out)⟩, ⟨rm_ (h := HO_775003.out)⟩, ⟨rm_ (h := HO_775004.out)⟩, ⟨rm_ (h := HO_775005.out)⟩, ⟨kp_ BK744⟩, ⟨kp_ BK759⟩, ⟨kp_ BK774⟩, ⟨hb_ HB⟩⟩
 revert kj17 wc w65 gb816 w64 w59 gb811 w58 co57 Ao57 w56 w55 w53 w48 gb799 w47 v793 w46 v789 w45 v785 w44 v781 w43 co42 Ao42 w41 co40 Ao40 co39 Ao39 co38 Ao38 w34 gb774 w33 co31 Ao31 co30 Ao30 co29 Ao29 w26 gb759 w25 co24 Ao24 co23 Ao23 co22 Ao22 w20 gb744 w19 t815 t814 t813 t812 t810 t809 t808 t807 t804 t803 t802 t801 t800 t798 t797 t796 t795 t792 t791 t788 t787 t784 t783 t780 t779 t776 t775 t773 t772 t769 t766 t763 t762 t761 t760 t758 t757 t754 t751 t748 t747 t746 t745 t741 t738 t735 t734 t733 t732 w r l1 c1 A1 l0 c0 A0 k u4 u33 u34 u35 u36 u48 u49 u50 u51 u52 u53 u54 u55 u56 u57 u58 u59 u60 u61 u62 u63 u64 u65 u66 u67 u68 u69 u70 u71 u72 u73 u74 u75 u76 u77 u78 u79 u80 u81 u82 u83 u84 u85 u86 u87 u88 u89 u90 u91 u92 u93 u94 u95 u96 u97 u98 u99 u100 u101 u102 u103 u104 u105 u106 u107 u108 u109 u110 u111 u112 u113 u114 u115 u116 u117 u118 u119 u120 u121 u122 u123 u124 u125 u126 u127 u128 u129 u130 u131 u132 u133 u134 u135 u136 u137 u138 u139 u140 u141 u142 u143 u144 u145 u146 u147 u148 u149 u150 u151 u152 u153 u154 u155 u156 u157 u158 u159 u160 u161 u162 u163 u164 u165 u166 u167 u168 u169 u170 u171 u172 u173 u174 u175 u176 u177 u178 u179 u180 u181 u182 u183 u184 u185 u186 u187 u188 u189 u190 u191 u192 u193 u194 u195 u196 u197 u198 u199 u200 u201 u202 u203 u204 u205 u206 u207 u208 u209 u210 u211 u212 u213 u214 u215 u216 u217 u218 u219 u220 u221 u222 u223 u224 u225 u226 u227 u228 u229 u230 u231 u232 u233 u234 u235 u236 u237 u238 u239 u243 u244 u245 u246 u247 u248 u249 u250 u251 u252 u253 u254 u255 u256 u257 u258 u259 u260 u261 u262 u263 u264 u267 u268 u269 u270 u271 u272 u273 u274 u275 u276 u277 u278 u279 u280 u281 u282 u283 u284 u285 u286 u287 u288 u289 u290 u291 u292 u293 u294 u295 u296 u297 u298 u299 u300
 repeat (rename Value => z_; revert z_)
 repeat (rename World => z_; revert z_)
 repeat (rename Nat => z_; revert z_)
 repeat (rename Int => z_; revert z_)
 repeat (rename Bool => z_; revert z_)
 repeat (rename (Option Addr) => z_; revert z_)
 repeat (rename (Exit → Act → World → Prop) => z_; revert z_)
 repeat (rename (Act → World → Prop) => z_; revert z_)
 have dm_ := trivial; revert dm_
 exact hR_.elim id
  ⟩
end Go.Proofs.Ytceajigggcihnaa.PFnCoarse
