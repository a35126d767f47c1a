-- Laid for this claim by wip/tools/print2.sh, a changed copy of the kit's print (wip/tools/patch_print.py): not by print.sh. Parted by wip/fix/split.py and part.py.
import Derived.Test.YtdfjlelbkkaloaaPFnGradesx17
namespace Go.Proofs.Ytdfjlelbkkaloaa.PFnGrades
open Go.RowKit Go.Proofs.YtdfjlelbkkaloaaW.PrintWords Go.Proofs.YtdfjlelbkkaloaaW.PrintLast Go.Proofs.YtdfjlelbkkaloaaW.PrintMore
attribute [local go_sem] max2_int min2_int max_two min_two max_three min_three max_four min_four   -- for this text's walks alone
set_option linter.unusedVariables false
set_option linter.unusedSimpArgs false

set_option maxHeartbeats 8000000 in
set_option maxRecDepth 100000 in
def laws_FnGrades.top4 : {R : Prop // Nonempty R → (laws_FnGrades.top3.1)} := ⟨_, fun hR_ => by
  intro dm_; unhygienic intros; have hu30 := Try.underlying30
  clear HC57
  (try clear c1); (try clear c2); (try clear p2); (try clear c3); (try clear c4); (try clear c5); (try clear c6); (try clear p6); (try clear q6); (try clear hx6); (try clear c19); (try clear c19b0); (try clear c19b1); (try clear c19b2); (try clear c20); (try clear c20b0); (try clear c20b1); (try clear c21); (try clear c23); (try clear c24); (try clear c24b0); (try clear c25); (try clear c25b0); (try clear c26); (try clear c26b0); (try clear c27); (try clear c28); (try clear c28b0); (try clear c29); (try clear c29b0); (try clear c30); (try clear c30b0); (try clear c31); (try clear c31b0); (try clear c34); (try clear c35); (try clear c35b0); (try clear c36); (try clear c36b0); (try clear c37); (try clear c37b0); (try clear c38); (try clear c38b0); (try clear c39); (try clear c39b0); (try clear c43); (try clear c43b0); (try clear c44); (try clear c44b0); (try clear c45); (try clear c45b0); (try clear c46); (try clear c46b0); (try clear c47); (try clear c47b0); (try clear c51); (try clear c51b0); (try clear c52); (try clear c52b0); (try clear c53); (try clear c53b0); (try clear p61); (try clear q61); (try clear hx61); (try clear p62); (try clear q62); (try clear hx62); (try clear p64); (try clear c67); (try clear c67b0); (try clear c67b1); (try clear c67b2); (try clear hcz60_0); (try clear hcz60_1); (try clear hcz60_2); (try clear hcz60_3); (try clear hcz60_4); (try clear hcz60_5); (try clear hcz65_0); (try clear hcz65_1); (try clear hcz65_2); (try clear hcz65_3); (try clear hcz65_4); (try clear hcz65_5); (try clear hfz60_0); (try clear hfz60_1); (try clear hfz60_2); (try clear hfz60_3); (try clear hfz60_4); (try clear hfz60_5); (try clear hfz65_0); (try clear hfz65_1); (try clear hfz65_2); (try clear hfz65_3); (try clear hfz65_4); (try clear hfz65_5)
  obtain ⟨kq, x166_56, rfl, HA, HJ56, HO_21, HO_638003, HO_638004, HO_638005, BK637, HB⟩ := hcut
  cases kq with
  | zero => exact absurd HA.out (by simp [laws_FnGrades.j4])
  | succ kj56 =>
   have H := HA.out
   clear HA
   simp only [laws_FnGrades.j4] at H
   by_cases c71 : x166_56 = true
   ·subst c71
    have H1 : (some false) = some r := by rw [if_pos rfl] at H; exact H
    clear H
    have H := H1
    clear H1
    obtain rfl := Option.some.inj H
    go_wp2
    go_ret
    exact ⟨by first | rfl | (simp [errW_none, errW_some] <;> rfl) | (simp [*, errW_none, errW_some] <;> rfl), hb_ HB⟩
   ·replace c71 := Bool.eq_false_iff.mpr c71
    subst c71
    have H1 : (if t641 = true then (laws_FnGrades.j5 kj56 l1 t636 t642 (decide (t636 ≤ 1000)) t624 t625 t626 t627 t630 t633) else (laws_FnGrades.j5 kj56 l1 t636 t642 false t624 t625 t626 t627 t630 t633)) = some r := by rw [if_neg (show ¬ (false = true) by decide)] at H; exact H
    clear H
    have H := H1
    clear H1
    have HC72 := Aside0.mk H
    clear H
    go_upto_region 25 with (fail)
    go_cut [171] (fun v171 wc => ∃ (kq : Nat) (x171_71 : Bool), v171 = .bool x171_71 ∧ Aside0 (laws_FnGrades.j5 kq l1 t636 t642 x171_71 t624 t625 t626 t627 t630 t633 = some r) ∧ Aside0 (kq ≤ kj56) ∧ Aside0 (Kd.R (Kd.int .i64) 3 wc w.heap.size (fun k_ => some k_ ≠ ((.slice Ao61 t627.length co61) : Value).ownBlock ∧ some k_ ≠ ((.slice Ao62 t630.length co62) : Value).ownBlock ∧ some k_ ≠ ((.slice Ao63 t633.length co63) : Value).ownBlock) v643 t642) ∧ Aside0 (Kd.R (Kd.int .i64) 3 wc w.heap.size (fun k_ => some k_ ≠ (v643 : Value).ownBlock ∧ some k_ ≠ ((.slice Ao62 t630.length co62) : Value).ownBlock ∧ some k_ ≠ ((.slice Ao63 t633.length co63) : Value).ownBlock) (.slice Ao61 t627.length co61) t627) ∧ Aside0 (Kd.R (Kd.int .i64) 3 wc w.heap.size (fun k_ => some k_ ≠ (v643 : Value).ownBlock ∧ some k_ ≠ ((.slice Ao61 t627.length co61) : Value).ownBlock ∧ some k_ ≠ ((.slice Ao63 t633.length co63) : Value).ownBlock) (.slice Ao62 t630.length co62) t630) ∧ Aside0 (Kd.R (Kd.int .i64) 3 wc w.heap.size (fun k_ => some k_ ≠ (v643 : Value).ownBlock ∧ some k_ ≠ ((.slice Ao61 t627.length co61) : Value).ownBlock ∧ some k_ ≠ ((.slice Ao62 t630.length co62) : Value).ownBlock) (.slice Ao63 t633.length co63) t633) ∧ Aside0 (wc.heap[gb637]? = some (.cells #[.int .i64 t624, .int .i64 t625, .int .i64 t626, (.slice Ao61 t627.length co61), (.slice Ao62 t630.length co62), (.slice Ao63 t633.length co63)] 30 (0, 0))) ∧ Aside0 (Below w.heap.size w wc))
    case first =>
     have H := HC72.out
     clear HC72
     by_cases c73 : t641 = true
     ·subst c73
      have H1 : (laws_FnGrades.j5 kj56 l1 t636 t642 (decide (t636 ≤ 1000)) t624 t625 t626 t627 t630 t633) = some r := by rw [if_pos rfl] at H; exact H
      clear H
      have H := H1
      clear H1
      have H' := Aside0.mk H
      clear H
      go_wp2
      go_meet
      case rel => exact ⟨_, (decide (t636 ≤ 1000)), (by first | rfl | (simp; done) | (simp [*]; done)), H', ⟨by have := HJ7.out; have := HJ21.out; have := HJ56.out; first | omega | exact Nat.le_refl _⟩, ⟨Kd.R_p HO_21⟩, ⟨Kd.R_p HO_638003⟩, ⟨Kd.R_p HO_638004⟩, ⟨Kd.R_p HO_638005⟩, ⟨kp_ BK637⟩, ⟨hb_ HB⟩⟩
     ·replace c73 := Bool.eq_false_iff.mpr c73
      subst c73
      have H1 : (laws_FnGrades.j5 kj56 l1 t636 t642 false t624 t625 t626 t627 t630 t633) = some r := by rw [if_neg (show ¬ (false = true) by decide)] at H; exact H
      clear H
      have H := H1
      clear H1
      have H' := Aside0.mk H
      clear H
      go_wp2
      go_meet
      case rel => exact ⟨_, (false), (by first | rfl | (simp; done) | (simp [*]; done)), H', ⟨by have := HJ7.out; have := HJ21.out; have := HJ56.out; first | omega | exact Nat.le_refl _⟩, ⟨Kd.R_p HO_21⟩, ⟨Kd.R_p HO_638003⟩, ⟨Kd.R_p HO_638004⟩, ⟨Kd.R_p HO_638005⟩, ⟨kp_ BK637⟩, ⟨hb_ HB⟩⟩
    case rest =>
     clear HC72
     (try clear c1); (try clear c2); (try clear p2); (try clear c3); (try clear c4); (try clear c5); (try clear c6); (try clear p6); (try clear q6); (try clear hx6); (try clear c7); (try clear c19); (try clear c19b0); (try clear c19b1); (try clear c19b2); (try clear c20); (try clear c20b0); (try clear c20b1); (try clear c21); (try clear c23); (try clear c24); (try clear c24b0); (try clear c25); (try clear c25b0); (try clear c26); (try clear c26b0); (try clear c27); (try clear c28); (try clear c28b0); (try clear c29); (try clear c29b0); (try clear c30); (try clear c30b0); (try clear c31); (try clear c31b0); (try clear c34); (try clear c35); (try clear c35b0); (try clear c36); (try clear c36b0); (try clear c37); (try clear c37b0); (try clear c38); (try clear c38b0); (try clear c39); (try clear c39b0); (try clear c43); (try clear c43b0); (try clear c44); (try clear c44b0); (try clear c45); (try clear c45b0); (try clear c46); (try clear c46b0); (try clear c47); (try clear c47b0); (try clear c51); (try clear c51b0); (try clear c52); (try clear c52b0); (try clear c53); (try clear c53b0); (try clear p61); (try clear q61); (try clear hx61); (try clear p62); (try clear q62); (try clear hx62); (try clear p64); (try clear c67); (try clear c67b0); (try clear c67b1); (try clear c67b2); (try clear c71); (try clear c73)
     obtain ⟨kq, x171_71, rfl, HA, HJ71, HO_21, HO_638003, HO_638004, HO_638005, BK637, HB⟩ := hcut
     cases kq with
     | zero => exact absurd HA.out (by simp [laws_FnGrades.j5])
     | succ kj71 =>
      have H := HA.out
      clear HA
      simp only [laws_FnGrades.j5] at H
      have HC74 := Aside0.mk H
      clear H
      go_upto_if 171 with (fail)
      go_cut [] (fun wc => ∃ (kq : Nat), Aside0 (laws_FnGrades.j8 kq l1 = some r) ∧ Aside0 (kq ≤ kj71) ∧ Aside0 (Below w.heap.size w wc))
      case first =>
       have H := HC74.out
       clear HC74
       by_cases c75 : x171_71 = true
       ·refine ?z5_
        let rec p5_ : type_of% ?z5_ := by(
        subst c75
        have H1 : ((impl_AboveGrade.f kj71 t624 t625 t626 t627 t630 t633 (wrap64 (t636 + 1))).bind fun bt647 => (if bt647.2 = true then (laws_FnGrades.j6 kj71 l1 t642 bt647.1 (decide ((bt647.1.length : Int) > (t642.length : Int)))) else (laws_FnGrades.j6 kj71 l1 t642 bt647.1 true))) = some r := by rw [if_pos rfl] at H; exact H
        clear H
        have H := H1
        clear H1
        replace H := Option.bind_eq_some_iff.mp H
        obtain ⟨⟨t647, t650⟩, A760, H⟩ := H
        replace H : (if t650 = true then (laws_FnGrades.j6 kj71 l1 t642 t647 (decide ((t647.length : Int) > (t642.length : Int)))) else (laws_FnGrades.j6 kj71 l1 t642 t647 true)) = some r := H
        have A76 := Aside0.mk A760
        clear A760
        have HC77 := Aside0.mk H
        clear H
        have hcz78_0 : wc.cell? ⟨gb637, 0, none⟩ = some (.int .i64 t624) := (blk_cell BK637.out 0).trans rfl
        have hcz78_1 : wc.cell? ⟨gb637, 1, none⟩ = some (.int .i64 t625) := (blk_cell BK637.out 1).trans rfl
        have hcz78_2 : wc.cell? ⟨gb637, 2, none⟩ = some (.int .i64 t626) := (blk_cell BK637.out 2).trans rfl
        have hcz78_3 : wc.cell? ⟨gb637, 3, none⟩ = some (.slice Ao61 t627.length co61) := (blk_cell BK637.out 3).trans rfl
        have hcz78_4 : wc.cell? ⟨gb637, 4, none⟩ = some (.slice Ao62 t630.length co62) := (blk_cell BK637.out 4).trans rfl
        have hcz78_5 : wc.cell? ⟨gb637, 5, none⟩ = some (.slice Ao63 t633.length co63) := (blk_cell BK637.out 5).trans rfl
        have hfz78_0 := blk_frozen BK637.out 0
        have hfz78_1 := blk_frozen BK637.out 1
        have hfz78_2 := blk_frozen BK637.out 2
        have hfz78_3 := blk_frozen BK637.out 3
        have hfz78_4 := blk_frozen BK637.out 4
        have hfz78_5 := blk_frozen BK637.out 5
        go_upto_region 27 with (first | ((with_reducible refine gate_callee (f := 29) rfl ?_); refine gl_ (some 176) Try.func29 #[.agg #[.int .i64 t624, .int .i64 t625, .int .i64 t626, .slice Ao61 t627.length co61, .slice Ao62 t630.length co62, .slice Ao63 t633.length co63], .int .i64 (wrap64 (t636 + 1))] rfl rfl rfl ?_; (with_reducible refine (impl_AboveGrade.calls kj71 t624 t625 t626 _ _ t627 _ _ t630 _ _ t633 (wrap64 (t636 + 1)) t647 t650 _ ?side1 ?side2 ?side3 ?side4 ?side5 ?side6 A76.out).mono ?_); (case side1 => exact Kd.C_o HO_638003); (case side2 => exact (Kd.R_reads' HO_638003.out).2.1); (case side3 => exact Kd.C_o HO_638004); (case side4 => exact (Kd.R_reads' HO_638004.out).2.1); (case side5 => exact Kd.C_o HO_638005); (case side6 => exact (Kd.R_reads' HO_638005.out).2.1); rintro e w79 ⟨v648, rfl, ho0, hb⟩; refine ⟨_, rfl, ?_⟩; have HO649 := Kd.R_lo (Kd.R_nw (Kd.R_nw (Kd.R_nw (Kd.R_nw ho0 HO_21) HO_638003) HO_638004) HO_638005) HB; replace HO_21 := Kd.R_e HO_21 ho0 hb; replace HO_638003 := Kd.R_e HO_638003 ho0 hb; replace HO_638004 := Kd.R_e HO_638004 ho0 hb; replace HO_638005 := Kd.R_e HO_638005 ho0 hb; replace BK637 := kb_ BK637 hb; replace HB := hbs_ HB hb; (try clear hb); (try clear hb2); (try clear hk); (try clear hi); (try clear ho0)))
        (try simp only [Act.put, List.setIfInBounds_toArray, List.set_cons_zero, List.set_cons_succ])
        go_cut [187] (fun v187 wc => ∃ (kq : Nat) (x187_76 : Bool), v187 = .bool x187_76 ∧ Aside0 (laws_FnGrades.j6 kq l1 t642 t647 x187_76 = some r) ∧ Aside0 (kq ≤ kj71) ∧ Aside0 (Kd.R (Kd.int .i64) 3 wc w.heap.size (fun k_ => some k_ ≠ (v648 : Value).ownBlock) v643 t642) ∧ Aside0 (Kd.R (Kd.int .i64) 3 wc w.heap.size (fun k_ => some k_ ≠ (v643 : Value).ownBlock) v648 t647) ∧ Aside0 (Below w.heap.size w wc))
        case first =>
         have H := HC77.out
         clear HC77
         by_cases c80 : t650 = true
         ·subst c80
          have H1 : (laws_FnGrades.j6 kj71 l1 t642 t647 (decide ((t647.length : Int) > (t642.length : Int)))) = some r := by rw [if_pos rfl] at H; exact H
          clear H
          have H := H1
          clear H1
          have H' := Aside0.mk H
          clear H
          obtain ⟨Ao81, co81, eo81⟩ := Kd.R_slice HO649.out
          subst eo81
          obtain ⟨Ao82, co82, eo82⟩ := Kd.R_slice HO_21.out
          subst eo82
          go_wp2
          go_meet
          case rel => exact ⟨_, (decide ((t647.length : Int) > (t642.length : Int))), (by first | rfl | (simp; done) | (simp [*]; done)), H', ⟨by have := HJ7.out; have := HJ21.out; have := HJ56.out; have := HJ71.out; first | omega | exact Nat.le_refl _⟩, ⟨Kd.R_pp (Kd.R_mono HO_21.out (fun _ hk => hk.2))⟩, ⟨Kd.R_pp (Kd.R_mono HO649.out (fun _ hk => hk.1.1.1.2))⟩, ⟨hb_ HB⟩⟩
         ·replace c80 := Bool.eq_false_iff.mpr c80
          subst c80
          have H1 : (laws_FnGrades.j6 kj71 l1 t642 t647 true) = some r := by rw [if_neg (show ¬ (false = true) by decide)] at H; exact H
          clear H
          have H := H1
          clear H1
          have H' := Aside0.mk H
          clear H
          go_wp2
          go_meet
          case rel => exact ⟨_, (true), (by first | rfl | (simp; done) | (simp [*]; done)), H', ⟨by have := HJ7.out; have := HJ21.out; have := HJ56.out; have := HJ71.out; first | omega | exact Nat.le_refl _⟩, ⟨Kd.R_pp (Kd.R_mono HO_21.out (fun _ hk => hk.2))⟩, ⟨Kd.R_pp (Kd.R_mono HO649.out (fun _ hk => hk.1.1.1.2))⟩, ⟨hb_ HB⟩⟩
        case rest =>
         clear HC77
         (try clear c1); (try clear c2); (try clear p2); (try clear c3); (try clear c4); (try clear c5); (try clear c6); (try clear p6); (try clear q6); (try clear hx6); (try clear c7); (try clear c8); (try clear c19); (try clear c19b0); (try clear c19b1); (try clear c19b2); (try clear c20); (try clear c20b0); (try clear c20b1); (try clear c21); (try clear c23); (try clear c24); (try clear c24b0); (try clear c25); (try clear c25b0); (try clear c26); (try clear c26b0); (try clear c27); (try clear c28); (try clear c28b0); (try clear c29); (try clear c29b0); (try clear c30); (try clear c30b0); (try clear c31); (try clear c31b0); (try clear c34); (try clear c35); (try clear c35b0); (try clear c36); (try clear c36b0); (try clear c37); (try clear c37b0); (try clear c38); (try clear c38b0); (try clear c39); (try clear c39b0); (try clear c43); (try clear c43b0); (try clear c44); (try clear c44b0); (try clear c45); (try clear c45b0); (try clear c46); (try clear c46b0); (try clear c47); (try clear c47b0); (try clear c51); (try clear c51b0); (try clear c52); (try clear c52b0); (try clear c53); (try clear c53b0); (try clear p61); (try clear q61); (try clear hx61); (try clear p62); (try clear q62); (try clear hx62); (try clear p64); (try clear c67); (try clear c67b0); (try clear c67b1); (try clear c67b2); (try clear c71); (try clear c73); (try clear c75); (try clear c80); (try clear hcz78_0); (try clear hcz78_1); (try clear hcz78_2); (try clear hcz78_3); (try clear hcz78_4); (try clear hcz78_5); (try clear hfz78_0); (try clear hfz78_1); (try clear hfz78_2); (try clear hfz78_3); (try clear hfz78_4); (try clear hfz78_5)
         obtain ⟨kq, x187_76, rfl, HA, HJ76, HO_21, HO_23, HB⟩ := hcut
         cases kq with
         | zero => exact absurd HA.out (by simp [laws_FnGrades.j6])
         | succ kj76 =>
          have H := HA.out
          clear HA
          simp only [laws_FnGrades.j6] at H
          by_cases c83 : x187_76 = true
          ·subst c83
           have H1 : (some false) = some r := by rw [if_pos rfl] at H; exact H
           clear H
           have H := H1
           clear H1
           obtain rfl := Option.some.inj H
           go_wp2
           go_ret
           exact ⟨by first | rfl | (simp [errW_none, errW_some] <;> rfl) | (simp [*, errW_none, errW_some] <;> rfl), hb_ HB⟩
          ·replace c83 := Bool.eq_false_iff.mpr c83
           subst c83
           have H1 : (laws_FnGrades.l1 kj76 l1 t642 t647 (t647.length : Int) 0) = some r := by rw [if_neg (show ¬ (false = true) by decide)] at H; exact H
           clear H
           have H := H1
           clear H1
           have H' := Aside0.mk H
           clear H
           obtain ⟨Ao84, co84, eo84⟩ := Kd.R_slice HO_23.out
           subst eo84
           go_wp2
           go_loopg [190] kj76 (fun kq v190 w' => ∃ (x190_6 : Int), v190 = .int .i64 x190_6 ∧ Aside0 (laws_FnGrades.l1 kq l1 t642 t647 (t647.length : Int) x190_6 = some r) ∧ Aside0 (kq ≤ kj76) ∧ Aside0 (Kd.R (Kd.int .i64) 3 w' w.heap.size (fun k_ => some k_ ≠ ((.slice Ao84 t647.length co84) : Value).ownBlock) v643 t642) ∧ Aside0 (Kd.R (Kd.int .i64) 3 w' w.heap.size (fun k_ => some k_ ≠ (v643 : Value).ownBlock) (.slice Ao84 t647.length co84) t647) ∧ Aside0 (Below w.heap.size w w'))
           case atStart => exact ⟨(0), (by first | rfl | (simp; done) | (simp [*]; done)), H', ⟨Nat.le_refl _⟩, ⟨Kd.R_p HO_21⟩, ⟨Kd.R_p HO_23⟩, ⟨hb_ HB⟩⟩
           case round =>
            refine ?z6_
            let rec p6_ : type_of% ?z6_ := by(
            clear H'
            (try clear c1); (try clear c2); (try clear p2); (try clear c3); (try clear c4); (try clear c5); (try clear c6); (try clear p6); (try clear q6); (try clear hx6); (try clear c7); (try clear c8); (try clear c19); (try clear c19b0); (try clear c19b1); (try clear c19b2); (try clear c20); (try clear c20b0); (try clear c20b1); (try clear c21); (try clear c23); (try clear c24); (try clear c24b0); (try clear c25); (try clear c25b0); (try clear c26); (try clear c26b0); (try clear c27); (try clear c28); (try clear c28b0); (try clear c29); (try clear c29b0); (try clear c30); (try clear c30b0); (try clear c31); (try clear c31b0); (try clear c34); (try clear c35); (try clear c35b0); (try clear c36); (try clear c36b0); (try clear c37); (try clear c37b0); (try clear c38); (try clear c38b0); (try clear c39); (try clear c39b0); (try clear c43); (try clear c43b0); (try clear c44); (try clear c44b0); (try clear c45); (try clear c45b0); (try clear c46); (try clear c46b0); (try clear c47); (try clear c47b0); (try clear c51); (try clear c51b0); (try clear c52); (try clear c52b0); (try clear c53); (try clear c53b0); (try clear p61); (try clear q61); (try clear hx61); (try clear p62); (try clear q62); (try clear hx62); (try clear p64); (try clear c67); (try clear c67b0); (try clear c67b1); (try clear c67b2); (try clear c71); (try clear c73); (try clear c75); (try clear c80); (try clear c83)
            obtain ⟨x190_6, rfl, HA, HK6, HO_21, HO_188, HB⟩ := hrel
            cases gk with
            | zero => exact absurd HA.out (by simp [laws_FnGrades.l1])
            | succ k6 =>
             have H := HA.out
             clear HA
             simp only [laws_FnGrades.l1] at H
             by_cases c85 : x190_6 < (t647.length : Int)
             ·rw [if_pos c85] at H
              have c85b0 : decide (x190_6 < (t647.length : Int)) = true := decide_eq_true c85
              clear c85
              by_cases c86 : 0 ≤ x190_6
              ·rw [if_pos c86] at H
               have c86b0 : decide (0 ≤ x190_6) = true := decide_eq_true c86
               clear c86
               by_cases c87 : x190_6 < (t647.length : Int)
               ·rw [if_pos c87] at H
                have c87b0 : decide (x190_6 < (t647.length : Int)) = true := decide_eq_true c87
                clear c87
                replace H := Option.bind_eq_some_iff.mp H
                obtain ⟨t652, A880, H⟩ := H
                replace H : (if t652 = true then (laws_FnGrades.l1 k6 l1 t642 t647 (t647.length : Int) (wrap64 (x190_6 + 1))) else (some false)) = some r := H
                have A88 := Aside0.mk A880
                clear A880
                by_cases c89 : t652 = true
                ·subst c89
                 have H1 : (laws_FnGrades.l1 k6 l1 t642 t647 (t647.length : Int) (wrap64 (x190_6 + 1))) = some r := by rw [if_pos rfl] at H; exact H
                 clear H
                 have H := H1
                 clear H1
                 have H' := Aside0.mk H
                 clear H
                 have p651 : 0 ≤ (x190_6 : Int) := of_decide_eq_true (by first | (with_reducible assumption) | assumption)
                 have q651 : x190_6 < (t647.length : Int) := of_decide_eq_true (by first | (with_reducible assumption) | assumption)
                 obtain ⟨ad651, e651, hx651_0⟩ := Kd.at_int (Kd.R_reads' HO_188.out).2.2 x190_6 p651 q651
                 cases e651
                 replace p651 := eq_true p651
                 replace q651 := eq_true q651
                 obtain ⟨Ao90, co90, eo90⟩ := Kd.R_slice HO_21.out
                 subst eo90
                 go_wp2_with (first | ((with_reducible refine gate_callee (f := 32) rfl ?_); refine gl_ (some 196) Try.func32 #[.slice Ao90 t642.length co90, .int .i64 (rd t647 x190_6)] rfl rfl rfl ?_; (with_reducible refine (laws_pIn.calls k6 _ _ t642 (rd t647 x190_6) true _ ?side1 ?side2 A88.out).mono ?_); (case side1 => exact Kd.C_o HO_21); (case side2 => exact (Kd.R_reads' HO_21.out).2.1); rintro e w' ⟨rfl, ⟨nd, rfl⟩⟩; refine ⟨_, rfl, ?_⟩))
                 go_roundg k6
                 case measure => have := HJ7.out; have := HJ21.out; have := HJ56.out; have := HJ71.out; have := HJ76.out; have := HK6.out; omega
                 case rel => exact ⟨(wrap64 (x190_6 + 1)), (by first | rfl | (simp; done) | (simp [*]; done)), H', ⟨by have := HJ7.out; have := HJ21.out; have := HJ56.out; have := HJ71.out; have := HJ76.out; have := HK6.out; omega⟩, ⟨Kd.R_p HO_21⟩, ⟨Kd.R_p HO_188⟩, ⟨hb_ HB⟩⟩
                ·replace c89 := Bool.eq_false_iff.mpr c89
                 subst c89
                 have H1 : (some false) = some r := by rw [if_neg (show ¬ (false = true) by decide)] at H; exact H
                 clear H
                 have H := H1
                 clear H1
                 obtain rfl := Option.some.inj H
                 have p651 : 0 ≤ (x190_6 : Int) := of_decide_eq_true (by first | (with_reducible assumption) | assumption)
                 have q651 : x190_6 < (t647.length : Int) := of_decide_eq_true (by first | (with_reducible assumption) | assumption)
                 obtain ⟨ad651, e651, hx651_0⟩ := Kd.at_int (Kd.R_reads' HO_188.out).2.2 x190_6 p651 q651
                 cases e651
                 replace p651 := eq_true p651
                 replace q651 := eq_true q651
                 obtain ⟨Ao91, co91, eo91⟩ := Kd.R_slice HO_21.out
                 subst eo91
                 go_wp2_with (first | ((with_reducible refine gate_callee (f := 32) rfl ?_); refine gl_ (some 196) Try.func32 #[.slice Ao91 t642.length co91, .int .i64 (rd t647 x190_6)] rfl rfl rfl ?_; (with_reducible refine (laws_pIn.calls k6 _ _ t642 (rd t647 x190_6) false _ ?side1 ?side2 A88.out).mono ?_); (case side1 => exact Kd.C_o HO_21); (case side2 => exact (Kd.R_reads' HO_21.out).2.1); rintro e w' ⟨rfl, ⟨nd, rfl⟩⟩; refine ⟨_, rfl, ?_⟩))
                 go_ret
                 exact ⟨by first | rfl | (simp [errW_none, errW_some] <;> rfl) | (simp [*, errW_none, errW_some] <;> rfl), hb_ HB⟩
               ·rw [if_neg c87] at H
                exact absurd H (by simp)
              ·rw [if_neg c86] at H
               exact absurd H (by simp)
             ·rw [if_neg c85] at H
              have c85b0 : decide (x190_6 < (t647.length : Int)) = false := decide_eq_false c85
              clear c85
              have H' := Aside0.mk H
              clear H
              go_wp2
              go_meet
              case rel => exact ⟨_, H', ⟨by have := HJ7.out; have := HJ21.out; have := HJ56.out; have := HJ71.out; have := HJ76.out; have := HK6.out; first | omega | exact Nat.le_refl _⟩, ⟨hb_ HB⟩⟩
            )
            exact p6_
        )
        exact p5_
       ·replace c75 := Bool.eq_false_iff.mpr c75
        subst c75
        have H1 : (laws_FnGrades.j8 kj71 l1) = some r := by rw [if_neg (show ¬ (false = true) by decide)] at H; exact H
        clear H
        have H := H1
        clear H1
        have H' := Aside0.mk H
        clear H
        go_wp2
        go_meet
        case rel => exact ⟨_, H', ⟨by have := HJ7.out; have := HJ21.out; have := HJ56.out; have := HJ71.out; first | omega | exact Nat.le_refl _⟩, ⟨hb_ HB⟩⟩
      case rest =>
       (try revert co91); (try revert Ao91); (try revert co90); (try revert Ao90); (try revert A880); (try revert t652); (try revert k6); (try revert x190_6); (try revert co84); (try revert Ao84); (try revert kj76); (try revert x187_76); (try revert co82); (try revert Ao82); (try revert co81); (try revert Ao81); (try revert v648); (try revert w79); (try revert A760); (try revert t650); (try revert t647); (try revert kj71); (try revert x171_71); (try revert kj56); (try revert x166_56); (try revert co70); (try revert Ao70); (try revert co69); (try revert Ao69); (try revert A680); (try revert t646); (try revert v643)
       (try revert w66); (try revert v639); (try revert w64); (try revert co63); (try revert Ao63); (try revert co62); (try revert Ao62); (try revert co61); (try revert Ao61); (try revert w59); (try revert gb637); (try revert v634); (try revert v631); (try revert v628); (try revert w58); (try revert A560); (try revert t645); (try revert t642); (try revert A550); (try revert t641); (try revert t638); (try revert A540); (try revert t636); (try revert t633); (try revert t630); (try revert t627); (try revert t626); (try revert t625); (try revert t624); (try revert kj21); (try revert kj26); (try revert x98_26)
       (try revert k2); (try revert x80_2); (try revert x14_2); (try revert x13_2); (try revert kj7); (try revert x76_7); (try revert kq); (try revert wc); (try revert w18); (try revert w16); (try revert co15); (try revert Ao15); (try revert co14); (try revert Ao14); (try revert co13); (try revert Ao13); (try revert co12); (try revert Ao12); (try revert w10); (try revert gb607); (try revert v605); (try revert v602); (try revert v599); (try revert v596); (try revert w9); (try revert A70); (try revert t613); (try revert t612); (try revert t611); (try revert A60); (try revert t610); (try revert t609); (try revert t608)
       (try revert A50); (try revert t604); (try revert t601); (try revert t598); (try revert t595); (try revert t594); (try revert t593); (try revert t592); (try revert nd); (try revert e); (try revert A30); (try revert t591); (try revert w); (try revert r); (try revert l1); (try revert c1); (try revert A1); (try revert l0); (try revert c0); (try revert A0); (try revert k)
       (try revert u0); (try revert u1); (try revert u2); (try revert u3); (try revert u4); (try revert u5); (try revert u6); (try revert u7); (try revert u8); (try revert u9); (try revert u10); (try revert u11); (try revert u12); (try revert u13); (try revert u14); (try revert u15); (try revert u16); (try revert u17); (try revert u18); (try revert u19); (try revert u20); (try revert u21); (try revert u22); (try revert u23); (try revert u24); (try revert u25); (try revert u26); (try revert u27); (try revert u28); (try revert u29); (try revert u30); (try revert u31); (try revert u32); (try revert u33); (try revert u34); (try revert u35); (try revert u36); (try revert u37); (try revert u38); (try revert u39); (try revert u40); (try revert u41); (try revert u42); (try revert u43); (try revert u44); (try revert u45); (try revert u46); (try revert u47); (try revert u48); (try revert u49); (try revert u50); (try revert u51); (try revert u52); (try revert u53); (try revert u54); (try revert u55); (try revert u56); (try revert u57); (try revert u58); (try revert u59); (try revert u60); (try revert u61); (try revert u62); (try revert u63); (try revert u64); (try revert u65); (try revert u66); (try revert u67); (try revert u68); (try revert u69); (try revert u70); (try revert u71); (try revert u72); (try revert u73); (try revert u74); (try revert u75); (try revert u76); (try revert u77); (try revert u78); (try revert u79); (try revert u80); (try revert u81); (try revert u82); (try revert u83); (try revert u84); (try revert u85); (try revert u86); (try revert u87); (try revert u88); (try revert u89); (try revert u90); (try revert u91); (try revert u92); (try revert u93); (try revert u94); (try revert u95); (try revert u96); (try revert u97); (try revert u98); (try revert u99); (try revert u100); (try revert u101); (try revert u102); (try revert u103); (try revert u104); (try revert u105); (try revert u106); (try revert u107); (try revert u108); (try revert u109); (try revert u110); (try revert u111); (try revert u112); (try revert u113); (try revert u114); (try revert u115); (try revert u116); (try revert u117); (try revert u118); (try revert u119); (try revert u120); (try revert u121); (try revert u122); (try revert u123); (try revert u124); (try revert u125); (try revert u126); (try revert u127); (try revert u128); (try revert u129); (try revert u130); (try revert u131); (try revert u132); (try revert u133); (try revert u134); (try revert u135); (try revert u136); (try revert u137); (try revert u138); (try revert u139); (try revert u140); (try revert u141); (try revert u142); (try revert u143); (try revert u144); (try revert u145); (try revert u146); (try revert u147); (try revert u148); (try revert u149); (try revert u150); (try revert u151); (try revert u152); (try revert u153); (try revert u154); (try revert u155); (try revert u156); (try revert u157); (try revert u158); (try revert u159); (try revert u160); (try revert u161); (try revert u162); (try revert u163); (try revert u164); (try revert u165); (try revert u166); (try revert u167); (try revert u168); (try revert u169); (try revert u170); (try revert u171); (try revert u172); (try revert u173); (try revert u174); (try revert u175); (try revert u176); (try revert u177); (try revert u178); (try revert u179); (try revert u180); (try revert u181); (try revert u182); (try revert u183); (try revert u184); (try revert u185); (try revert u186); (try revert u187); (try revert u188); (try revert u189); (try revert u190); (try revert u191); (try revert u192); (try revert u193); (try revert u194); (try revert u195); (try revert u196); (try revert u197); (try revert u198); (try revert u199); (try revert u200); (try revert u201); (try revert u202); (try revert u203); (try revert u204); (try revert u205); (try revert u206); (try revert u207); (try revert u208); (try revert u209); (try revert u210); (try revert u211); (try revert u212); (try revert u213); (try revert u214); (try revert u215); (try revert u216); (try revert u217); (try revert u218); (try revert u219); (try revert u220); (try revert u221); (try revert u222); (try revert u223); (try revert u224); (try revert u225); (try revert u226); (try revert u227); (try revert u228); (try revert u229); (try revert u230); (try revert u231); (try revert u232); (try revert u233); (try revert u234); (try revert u235); (try revert u236); (try revert u237); (try revert u238); (try revert u239); (try revert u240); (try revert u241); (try revert u242); (try revert u243); (try revert u244); (try revert u245); (try revert u246); (try revert u247); (try revert u248); (try revert u249); (try revert u250); (try revert u251); (try revert u252); (try revert u253); (try revert u254); (try revert u255); (try revert u256); (try revert u257); (try revert u258); (try revert u259); (try revert u260); (try revert u261); (try revert u262); (try revert u263); (try revert u264); (try revert u265); (try revert u266); (try revert u267); (try revert u268); (try revert u269); (try revert u270); (try revert u271); (try revert u272); (try revert u273); (try revert u274); (try revert u275); (try revert u276); (try revert u277); (try revert u278); (try revert u279); (try revert u280); (try revert u281); (try revert u282); (try revert u283); (try revert u284); (try revert u285); (try revert u286); (try revert u287); (try revert u288); (try revert u289); (try revert u290); (try revert u291); (try revert u292); (try revert u293); (try revert u294); (try revert u295); (try revert u296); (try revert u297); (try revert u298); (try revert u299); (try revert u300); (try revert u301); (try revert u302); (try revert u303); (try revert u304); (try revert u305); (try revert u306); (try revert u307); (try revert u308); (try revert u309); (try revert u310); (try revert u311); (try revert u312); (try revert u313); (try revert u314); (try revert u315); (try revert u316); (try revert u317); (try revert u318); (try revert u319); (try revert u320); (try revert u321); (try revert u322); (try revert u323); (try revert u324); (try revert u325); (try revert u326); (try revert u327); (try revert u328); (try revert u329); (try revert u330)
       repeat (rename Value => z_; revert z_)
       repeat (rename World => z_; revert z_)
       repeat (rename Nat => z_; revert z_)
       repeat (rename Int => z_; revert z_)
       repeat (rename Bool => z_; revert z_)
       repeat (rename (Option Addr) => z_; revert z_)
       repeat (rename (Exit → Act → World → Prop) => z_; revert z_)
       repeat (rename (Act → World → Prop) => z_; revert z_)
       have dm_ := trivial; revert dm_
       exact hR_.elim id
  ⟩
end Go.Proofs.Ytdfjlelbkkaloaa.PFnGrades
