-- Laid for this claim by wip/tools/print2.sh, a changed copy of the kit's print (wip/tools/patch_print.py): not by print.sh.
import Derived.Test.YtceajigggcihnaaPFnPiecesx16
namespace Go.Proofs.Ytceajigggcihnaa.PFnPieces
open Go.RowKit Go.Proofs.YtceajigggcihnaaW.PrintWords Go.Proofs.YtceajigggcihnaaW.PrintLast Go.Proofs.YtceajigggcihnaaW.PrintMore
attribute [local go_sem] max2_int min2_int max_two min_two max_three min_three max_four min_four   -- for this text's walks alone
set_option linter.unusedVariables false
set_option linter.unusedSimpArgs false

attribute [local go_sem high] eqA29
set_option maxHeartbeats 8000000 in
set_option maxRecDepth 100000 in
def laws_FnPieces.top2 : {R : Prop // R → (laws_FnPieces.top1.1)} := ⟨_, fun hR_ => by
  intro k; unhygienic intros; have hu29 := Try.underlying29; have hu34 := Try.underlying34
  clear HC15
  (try clear p2); (try clear c4); (try clear c6); (try clear c46); (try clear c60); (try clear hcz18_0); (try clear hcz18_1); (try clear hcz18_2); (try clear hcz21_0); (try clear hcz21_1); (try clear hcz21_2); (try clear hcz26_0); (try clear hcz26_1); (try clear hcz26_2); (try clear hcz28_0); (try clear hcz28_1); (try clear hcz28_2); (try clear hcz30_0); (try clear hcz30_1); (try clear hcz30_2); (try clear hcz32_0); (try clear hcz32_1); (try clear hcz32_2); (try clear hcz38_0); (try clear hcz38_1); (try clear hcz38_2); (try clear hcz38_3); (try clear hcz38_4); (try clear hcz38_5); (try clear hcz47_0); (try clear hcz47_1); (try clear hcz47_2); (try clear hcz48_0); (try clear hcz48_1); (try clear hcz48_2); (try clear hcz48_3); (try clear hcz48_4); (try clear hcz48_5); (try clear hcz55_0); (try clear hcz55_1); (try clear hcz55_2); (try clear hfz18_0); (try clear hfz18_1); (try clear hfz18_2); (try clear hfz21_0); (try clear hfz21_1); (try clear hfz21_2); (try clear hfz26_0); (try clear hfz26_1); (try clear hfz26_2); (try clear hfz28_0); (try clear hfz28_1); (try clear hfz28_2); (try clear hfz30_0); (try clear hfz30_1); (try clear hfz30_2); (try clear hfz32_0); (try clear hfz32_1); (try clear hfz32_2); (try clear hfz38_0); (try clear hfz38_1); (try clear hfz38_2); (try clear hfz38_3); (try clear hfz38_4); (try clear hfz38_5); (try clear hfz47_0); (try clear hfz47_1); (try clear hfz47_2); (try clear hfz48_0); (try clear hfz48_1); (try clear hfz48_2); (try clear hfz48_3); (try clear hfz48_4); (try clear hfz48_5); (try clear hfz55_0); (try clear hfz55_1); (try clear hfz55_2)
  obtain ⟨kq, x152_14, rfl, HA, HJ14, HO_6, HO_7, HO_9, HO_595003, HO_595004, HO_595005, BK558, BK594, BK599, BK604, HB⟩ := hcut
  cases kq with
  | zero => exact absurd HA.out (by simp [laws_FnPieces.j0])
  | succ kj14 =>
   have H := HA.out
   clear HA
   simp only [laws_FnPieces.j0] at H
   by_cases c108 : x152_14 = true
   ·subst c108
    rw [if_pos rfl] at H
    obtain rfl := Option.some.inj H
    go_wp2
    go_ret
    exact ⟨by first | rfl | (simp [errW_none, errW_some] <;> rfl) | (simp [*, errW_none, errW_some] <;> rfl), hb_ HB⟩
   ·replace c108 := Bool.eq_false_iff.mpr c108
    subst c108
    rw [if_neg (show ¬ (false = true) by decide)] at H
    have HC109 := Aside0.mk H
    clear H
    go_upto_region 16 with (fail)
    go_cut [173] (fun v173 wc => ∃ (kq : Nat) (x173_108 : Bool), v173 = .bool x173_108 ∧ Aside0 (laws_FnPieces.j1 kq t555 t559 t562 t563 t593 t598 x173_108 t552 t553 t554 t581 t582 t583 t584 t587 t590 t595 t596 t597 t600 t601 t602 = some r) ∧ Aside0 (kq ≤ kj14) ∧ Aside0 (Kd.R (Kd.int .i64) 3 wc w.heap.size (fun k_ => some k_ ≠ ((.slice Ao39 t584.length co39) : Value).ownBlock ∧ some k_ ≠ ((.slice Ao40 t587.length co40) : Value).ownBlock ∧ some k_ ≠ ((.slice Ao41 t590.length co41) : Value).ownBlock) (.slice Ao19 t555.length co19) t555) ∧ Aside0 (Kd.R k29 29 wc w.heap.size (fun k_ => some k_ ≠ (v564 : Value).ownBlock ∧ k_ ≠ gb558 ∧ k_ ≠ gb599 ∧ k_ ≠ gb604) v560 t559) ∧ Aside0 (Kd.R k29 29 wc w.heap.size (fun k_ => some k_ ≠ (v560 : Value).ownBlock ∧ k_ ≠ gb558 ∧ k_ ≠ gb599 ∧ k_ ≠ gb604) v564 t563) ∧ Aside0 (Kd.R (Kd.int .i64) 3 wc w.heap.size (fun k_ => some k_ ≠ ((.slice Ao19 t555.length co19) : Value).ownBlock ∧ some k_ ≠ ((.slice Ao40 t587.length co40) : Value).ownBlock ∧ some k_ ≠ ((.slice Ao41 t590.length co41) : Value).ownBlock) (.slice Ao39 t584.length co39) t584) ∧ Aside0 (Kd.R (Kd.int .i64) 3 wc w.heap.size (fun k_ => some k_ ≠ ((.slice Ao19 t555.length co19) : Value).ownBlock ∧ some k_ ≠ ((.slice Ao39 t584.length co39) : Value).ownBlock ∧ some k_ ≠ ((.slice Ao41 t590.length co41) : Value).ownBlock) (.slice Ao40 t587.length co40) t587) ∧ Aside0 (Kd.R (Kd.int .i64) 3 wc w.heap.size (fun k_ => some k_ ≠ ((.slice Ao19 t555.length co19) : Value).ownBlock ∧ some k_ ≠ ((.slice Ao39 t584.length co39) : Value).ownBlock ∧ some k_ ≠ ((.slice Ao40 t587.length co40) : Value).ownBlock) (.slice Ao41 t590.length co41) t590) ∧ Aside0 (wc.heap[gb558]? = some (.cells #[.int .i64 t552, .int .i64 t553, .int .i64 t554] 29 (0, 0))) ∧ Aside0 (wc.heap[gb594]? = some (.cells #[.int .i64 t581, .int .i64 t582, .int .i64 t583, (.slice Ao39 t584.length co39), (.slice Ao40 t587.length co40), (.slice Ao41 t590.length co41)] 34 (0, 0))) ∧ Aside0 (wc.heap[gb599]? = some (.cells #[.int .i64 t595, .int .i64 t596, .int .i64 t597] 29 (0, 0))) ∧ Aside0 (wc.heap[gb604]? = some (.cells #[.int .i64 t600, .int .i64 t601, .int .i64 t602] 29 (0, 0))) ∧ Aside0 (Below w.heap.size w wc))
    case first =>
     have H := HC109.out
     clear HC109
     by_cases c110 : t577 = true
     ·subst c110
      rw [if_pos rfl] at H
      by_cases c111 : (wrap64 (2 * (wrap64 ((wrap64 (t573 * t579)) - t578)))) ≥ t579
      ·rw [if_pos c111] at H
       have c111b0 : decide (t579 ≤ (wrap64 (2 * (wrap64 ((wrap64 (t573 * t579)) - t578))))) = true := decide_eq_true c111
       clear c111
       (first | rw [c111b0] | (simp only [i64_w, i32_w]; rw [c111b0]) | skip)
       have H' := Aside0.mk H
       clear H
       go_wp2
       go_meet
       case rel => exact ⟨_, (true), (by first | rfl | (simp; done) | (simp [*]; done)), H', ⟨by have := HJ14.out; first | omega | exact Nat.le_refl _⟩, ⟨Kd.R_p HO_6⟩, ⟨Kd.R_p HO_7⟩, ⟨Kd.R_p HO_9⟩, ⟨Kd.R_p HO_595003⟩, ⟨Kd.R_p HO_595004⟩, ⟨Kd.R_p HO_595005⟩, ⟨kp_ BK558⟩, ⟨kp_ BK594⟩, ⟨kp_ BK599⟩, ⟨kp_ BK604⟩, ⟨hb_ HB⟩⟩
      ·rw [if_neg c111] at H
       have c111b0 : decide (t579 ≤ (wrap64 (2 * (wrap64 ((wrap64 (t573 * t579)) - t578))))) = false := decide_eq_false c111
       clear c111
       (first | rw [c111b0] | (simp only [i64_w, i32_w]; rw [c111b0]) | skip)
       have H' := Aside0.mk H
       clear H
       go_wp2
       go_meet
       case rel => exact ⟨_, (decide ((wrap64 (2 * (wrap64 (t578 - (wrap64 (t573 * t579)))))) > t579)), (by first | rfl | (simp; done) | (simp [*]; done)), H', ⟨by have := HJ14.out; first | omega | exact Nat.le_refl _⟩, ⟨Kd.R_p HO_6⟩, ⟨Kd.R_p HO_7⟩, ⟨Kd.R_p HO_9⟩, ⟨Kd.R_p HO_595003⟩, ⟨Kd.R_p HO_595004⟩, ⟨Kd.R_p HO_595005⟩, ⟨kp_ BK558⟩, ⟨kp_ BK594⟩, ⟨kp_ BK599⟩, ⟨kp_ BK604⟩, ⟨hb_ HB⟩⟩
     ·replace c110 := Bool.eq_false_iff.mpr c110
      subst c110
      rw [if_neg (show ¬ (false = true) by decide)] at H
      have H' := Aside0.mk H
      clear H
      go_wp2
      go_meet
      case rel => exact ⟨_, (false), (by first | rfl | (simp; done) | (simp [*]; done)), H', ⟨by have := HJ14.out; first | omega | exact Nat.le_refl _⟩, ⟨Kd.R_p HO_6⟩, ⟨Kd.R_p HO_7⟩, ⟨Kd.R_p HO_9⟩, ⟨Kd.R_p HO_595003⟩, ⟨Kd.R_p HO_595004⟩, ⟨Kd.R_p HO_595005⟩, ⟨kp_ BK558⟩, ⟨kp_ BK594⟩, ⟨kp_ BK599⟩, ⟨kp_ BK604⟩, ⟨hb_ HB⟩⟩
    case rest =>
     repeat (rename_i z2_; revert z2_)
     (try revert z1_)
     (try revert kj14); (try revert x152_14); (try revert kq); (try revert wc); (try revert w105); (try revert co107); (try revert Ao107); (try revert co106); (try revert Ao106); (try revert w104); (try revert w101); (try revert co103); (try revert Ao103); (try revert co102); (try revert Ao102); (try revert w100); (try revert w97); (try revert co99); (try revert Ao99); (try revert co98); (try revert Ao98); (try revert w96); (try revert w93); (try revert co95); (try revert Ao95); (try revert co94); (try revert Ao94); (try revert w92); (try revert w91); (try revert w90); (try revert w87); (try revert co89)
     (try revert Ao89); (try revert co88); (try revert Ao88); (try revert w86); (try revert A850); (try revert t607); (try revert A840); (try revert t606); (try revert w81); (try revert co83); (try revert Ao83); (try revert co82); (try revert Ao82); (try revert w80); (try revert w76); (try revert co78); (try revert Ao78); (try revert co77); (try revert Ao77); (try revert w75); (try revert w69); (try revert co71); (try revert Ao71); (try revert co70); (try revert Ao70); (try revert w68); (try revert w63); (try revert co65); (try revert Ao65); (try revert co64); (try revert Ao64); (try revert w62); (try revert A590)
     (try revert t605); (try revert w58); (try revert w57); (try revert w50); (try revert gb604); (try revert w49); (try revert w43); (try revert gb599); (try revert w42); (try revert co41); (try revert Ao41); (try revert co40); (try revert Ao40); (try revert co39); (try revert Ao39); (try revert w35); (try revert gb594); (try revert v591); (try revert v588); (try revert v585); (try revert w34); (try revert w33); (try revert w31); (try revert w29); (try revert w27); (try revert w24); (try revert gb570); (try revert w23); (try revert v564); (try revert w22); (try revert v560); (try revert w20); (try revert co19)
     (try revert Ao19); (try revert w17); (try revert gb558); (try revert v556); (try revert w16); (try revert e); (try revert A140); (try revert t603); (try revert t602); (try revert t601); (try revert t600); (try revert A130); (try revert t598); (try revert t597); (try revert t596); (try revert t595); (try revert A120); (try revert t593); (try revert t590); (try revert t587); (try revert t584); (try revert t583); (try revert t582); (try revert t581); (try revert A110); (try revert t580); (try revert t579); (try revert t578); (try revert A100); (try revert t577); (try revert t576); (try revert t575)
     (try revert A90); (try revert t574); (try revert t573); (try revert A80); (try revert t572); (try revert t571); (try revert A70); (try revert t569); (try revert t568); (try revert t567); (try revert A60); (try revert t566); (try revert t563); (try revert A50); (try revert t562); (try revert t559); (try revert A40); (try revert t555); (try revert t554); (try revert t553); (try revert t552); (try revert w); (try revert r); (try revert l1); (try revert c1); (try revert A1); (try revert l0); (try revert c0); (try revert A0)
     (try revert u30); (try revert u31); (try revert u32); (try revert u33); (try revert u34); (try revert u35); (try revert u36); (try revert u37); (try revert u38); (try revert u39); (try revert u40); (try revert u41); (try revert u42); (try revert u43); (try revert u44); (try revert u45); (try revert u46); (try revert u47); (try revert u48); (try revert u49); (try revert u50); (try revert u51); (try revert u52); (try revert u53); (try revert u54); (try revert u55); (try revert u56); (try revert u57); (try revert u58); (try revert u59); (try revert u60); (try revert u61); (try revert u62); (try revert u63); (try revert u64); (try revert u65); (try revert u66); (try revert u67); (try revert u68); (try revert u69); (try revert u70); (try revert u71); (try revert u72); (try revert u73); (try revert u74); (try revert u75); (try revert u76); (try revert u77); (try revert u78); (try revert u79); (try revert u80); (try revert u81); (try revert u82); (try revert u83); (try revert u84); (try revert u85); (try revert u86); (try revert u87); (try revert u88); (try revert u89); (try revert u90); (try revert u91); (try revert u92); (try revert u93); (try revert u94); (try revert u95); (try revert u96); (try revert u97); (try revert u98); (try revert u99); (try revert u100); (try revert u101); (try revert u102); (try revert u103); (try revert u104); (try revert u105); (try revert u106); (try revert u107); (try revert u108); (try revert u109); (try revert u110); (try revert u111); (try revert u112); (try revert u113); (try revert u114); (try revert u115); (try revert u116); (try revert u117); (try revert u118); (try revert u119); (try revert u120); (try revert u121); (try revert u122); (try revert u123); (try revert u124); (try revert u125); (try revert u126); (try revert u127); (try revert u128); (try revert u129); (try revert u130); (try revert u131); (try revert u132); (try revert u133); (try revert u134); (try revert u135); (try revert u136); (try revert u137); (try revert u138); (try revert u139); (try revert u140); (try revert u141); (try revert u142); (try revert u143); (try revert u144); (try revert u145); (try revert u146); (try revert u147); (try revert u148); (try revert u149); (try revert u150); (try revert u151); (try revert u152); (try revert u153); (try revert u154); (try revert u155); (try revert u156); (try revert u157); (try revert u158); (try revert u159); (try revert u160); (try revert u161); (try revert u162); (try revert u163); (try revert u164); (try revert u165); (try revert u166); (try revert u167); (try revert u168); (try revert u169); (try revert u170); (try revert u171); (try revert u172); (try revert u173); (try revert u174); (try revert u175); (try revert u176); (try revert u177); (try revert u178); (try revert u179); (try revert u180); (try revert u181); (try revert u182); (try revert u183); (try revert u184); (try revert u185); (try revert u186); (try revert u187); (try revert u188); (try revert u189); (try revert u190); (try revert u191); (try revert u192); (try revert u193); (try revert u194); (try revert u195); (try revert u196); (try revert u197); (try revert u198); (try revert u199); (try revert u200); (try revert u201); (try revert u202); (try revert u203); (try revert u204); (try revert u205); (try revert u206); (try revert u207); (try revert u208); (try revert u209); (try revert u210); (try revert u211); (try revert u212); (try revert u213); (try revert u214); (try revert u215); (try revert u216); (try revert u217); (try revert u218); (try revert u219); (try revert u220); (try revert u221); (try revert u222); (try revert u223); (try revert u224); (try revert u225); (try revert u226); (try revert u227); (try revert u228); (try revert u229); (try revert u230); (try revert u231); (try revert u232); (try revert u233); (try revert u234); (try revert u235); (try revert u236); (try revert u237); (try revert u238); (try revert u239); (try revert u240); (try revert u241); (try revert u242); (try revert u243); (try revert u244); (try revert u245); (try revert u246); (try revert u247); (try revert u248); (try revert u249); (try revert u250); (try revert u251); (try revert u252); (try revert u253); (try revert u254); (try revert u255); (try revert u256); (try revert u257); (try revert u258); (try revert u259); (try revert u260); (try revert u261); (try revert u262); (try revert u263); (try revert u264); (try revert u265); (try revert u266); (try revert u267); (try revert u268); (try revert u269); (try revert u270); (try revert u271); (try revert u272); (try revert u273); (try revert u274); (try revert u275); (try revert u276); (try revert u277); (try revert u278); (try revert u279); (try revert u280); (try revert u281); (try revert u282); (try revert u283); (try revert u284); (try revert u285); (try revert u286); (try revert u287); (try revert u288); (try revert u289); (try revert u290)
     revert k
     exact hR_
  ⟩
end Go.Proofs.Ytceajigggcihnaa.PFnPieces
