-- Laid for this claim by wip/tools/print2.sh, a changed copy of the kit's print (wip/tools/patch_print.py): not by print.sh. Parted by wip/fix/split.py and part.py.
import Derived.Test.YtdfjlelbkkaloaaPFnGradesx15
namespace Go.Proofs.Ytdfjlelbkkaloaa.PFnGrades
open Go.RowKit Go.Proofs.YtdfjlelbkkaloaaW.PrintWords Go.Proofs.YtdfjlelbkkaloaaW.PrintLast Go.Proofs.YtdfjlelbkkaloaaW.PrintMore
attribute [local go_sem] max2_int min2_int max_two min_two max_three min_three max_four min_four   -- for this text's walks alone
set_option linter.unusedVariables false
set_option linter.unusedSimpArgs false

set_option maxHeartbeats 8000000 in
set_option maxRecDepth 100000 in
def laws_FnGrades.top2 : {R : Prop // Nonempty R → (laws_FnGrades.top1.1)} := ⟨_, fun hR_ => by
  intro dm_; unhygienic intros; have hu30 := Try.underlying30
  clear HC8
  (try clear c1); (try clear c2); (try clear p2); (try clear c4); (try clear c6); (try clear c19); (try clear c19b0); (try clear c19b1); (try clear c19b2); (try clear c20); (try clear c20b0); (try clear c20b1); (try clear hcz11_0); (try clear hcz11_1); (try clear hcz11_2); (try clear hcz11_3); (try clear hcz11_4); (try clear hcz11_5); (try clear hcz17_0); (try clear hcz17_1); (try clear hcz17_2); (try clear hcz17_3); (try clear hcz17_4); (try clear hcz17_5); (try clear hfz11_0); (try clear hfz11_1); (try clear hfz11_2); (try clear hfz11_3); (try clear hfz11_4); (try clear hfz11_5); (try clear hfz17_0); (try clear hfz17_1); (try clear hfz17_2); (try clear hfz17_3); (try clear hfz17_4); (try clear hfz17_5)
  obtain ⟨kq, x76_7, rfl, HA, HJ7, HO_6, HO_608003, HO_608004, HO_608005, BK607, HB⟩ := hcut
  cases kq with
  | zero => exact absurd HA.out (by simp [laws_FnGrades.j0])
  | succ kj7 =>
   have H := HA.out
   clear HA
   simp only [laws_FnGrades.j0] at H
   by_cases c21 : x76_7 = true
   ·subst c21
    have H1 : (some false) = some r := by rw [if_pos rfl] at H; exact H
    clear H
    have H := H1
    clear H1
    obtain rfl := Option.some.inj H
    go_wp2
    go_ret
    exact ⟨by first | rfl | (simp [errW_none, errW_some] <;> rfl) | (simp [*, errW_none, errW_some] <;> rfl), hb_ HB⟩
   ·replace c21 := Bool.eq_false_iff.mpr c21
    subst c21
    have H1 : (if t610 = true then (laws_FnGrades.l0 kj7 l1 t611 t612 1000 0 t604 (t604.length : Int) 0 t592 t593 t594 t595 t598 t601) else (laws_FnGrades.j3 kj7 l1)) = some r := by rw [if_neg (show ¬ (false = true) by decide)] at H; exact H
    clear H
    have H := H1
    clear H1
    have HC22 := Aside0.mk H
    clear H
    go_upto_if 77 with (fail)
    go_cut [] (fun wc => ∃ (kq : Nat), Aside0 (laws_FnGrades.j3 kq l1 = some r) ∧ Aside0 (kq ≤ kj7) ∧ Aside0 (Below w.heap.size w wc))
    case first =>
     have H := HC22.out
     clear HC22
     by_cases c23 : t610 = true
     ·subst c23
      have H1 : (laws_FnGrades.l0 kj7 l1 t611 t612 1000 0 t604 (t604.length : Int) 0 t592 t593 t594 t595 t598 t601) = some r := by rw [if_pos rfl] at H; exact H
      clear H
      have H := H1
      clear H1
      have H' := Aside0.mk H
      clear H
      go_wp2
      go_loopg [13, 14, 80] kj7 (fun kq v13 v14 v80 w' => ∃ (x13_2 : Int) (x14_2 : Int) (x80_2 : Int), v13 = .int .i64 x13_2 ∧ v14 = .int .i64 x14_2 ∧ v80 = .int .i64 x80_2 ∧ Aside0 (laws_FnGrades.l0 kq l1 t611 t612 x13_2 x14_2 t604 (t604.length : Int) x80_2 t592 t593 t594 t595 t598 t601 = some r) ∧ Aside0 (kq ≤ kj7) ∧ Aside0 (Kd.R (Kd.int .i64) 3 w' w.heap.size (fun k_ => some k_ ≠ ((.slice Ao12 t595.length co12) : Value).ownBlock ∧ some k_ ≠ ((.slice Ao13 t598.length co13) : Value).ownBlock ∧ some k_ ≠ ((.slice Ao14 t601.length co14) : Value).ownBlock) (.slice Ao15 t604.length co15) t604) ∧ Aside0 (Kd.R (Kd.int .i64) 3 w' w.heap.size (fun k_ => some k_ ≠ ((.slice Ao15 t604.length co15) : Value).ownBlock ∧ some k_ ≠ ((.slice Ao13 t598.length co13) : Value).ownBlock ∧ some k_ ≠ ((.slice Ao14 t601.length co14) : Value).ownBlock) (.slice Ao12 t595.length co12) t595) ∧ Aside0 (Kd.R (Kd.int .i64) 3 w' w.heap.size (fun k_ => some k_ ≠ ((.slice Ao15 t604.length co15) : Value).ownBlock ∧ some k_ ≠ ((.slice Ao12 t595.length co12) : Value).ownBlock ∧ some k_ ≠ ((.slice Ao14 t601.length co14) : Value).ownBlock) (.slice Ao13 t598.length co13) t598) ∧ Aside0 (Kd.R (Kd.int .i64) 3 w' w.heap.size (fun k_ => some k_ ≠ ((.slice Ao15 t604.length co15) : Value).ownBlock ∧ some k_ ≠ ((.slice Ao12 t595.length co12) : Value).ownBlock ∧ some k_ ≠ ((.slice Ao13 t598.length co13) : Value).ownBlock) (.slice Ao14 t601.length co14) t601) ∧ Aside0 (w'.heap[gb607]? = some (.cells #[.int .i64 t592, .int .i64 t593, .int .i64 t594, (.slice Ao12 t595.length co12), (.slice Ao13 t598.length co13), (.slice Ao14 t601.length co14)] 30 (0, 0))) ∧ Aside0 (Below w.heap.size w w'))
      case atStart => exact ⟨(1000), (0), (0), (by first | rfl | (simp; done) | (simp [*]; done)), (by first | rfl | (simp; done) | (simp [*]; done)), (by first | rfl | (simp; done) | (simp [*]; done)), H', ⟨Nat.le_refl _⟩, ⟨Kd.R_p HO_6⟩, ⟨Kd.R_p HO_608003⟩, ⟨Kd.R_p HO_608004⟩, ⟨Kd.R_p HO_608005⟩, ⟨kp_ BK607⟩, ⟨hb_ HB⟩⟩
      case round =>
       clear H'
       (try clear c1); (try clear c2); (try clear p2); (try clear c4); (try clear c6); (try clear c19); (try clear c19b0); (try clear c19b1); (try clear c19b2); (try clear c20); (try clear c20b0); (try clear c20b1); (try clear c21); (try clear c23)
       obtain ⟨x13_2, x14_2, x80_2, rfl, rfl, rfl, HA, HK2, HO_78, HO_608003, HO_608004, HO_608005, BK607, HB⟩ := hrel
       cases gk with
       | zero => exact absurd HA.out (by simp [laws_FnGrades.l0])
       | succ k2 =>
        have H := HA.out
        clear HA
        simp only [laws_FnGrades.l0] at H
        by_cases c24 : x80_2 < (t604.length : Int)
        ·rw [if_pos c24] at H
         have c24b0 : decide (x80_2 < (t604.length : Int)) = true := decide_eq_true c24
         clear c24
         (first | rw [c24b0] | (simp only [i64_w, i32_w]; rw [c24b0]) | skip)
         by_cases c25 : 0 ≤ x80_2
         ·rw [if_pos c25] at H
          have c25b0 : decide (0 ≤ x80_2) = true := decide_eq_true c25
          clear c25
          by_cases c26 : x80_2 < (t604.length : Int)
          ·refine ?z1_
           let rec p1_ : type_of% ?z1_ := by(
           rw [if_pos c26] at H
           have c26b0 : decide (x80_2 < (t604.length : Int)) = true := decide_eq_true c26
           clear c26
           have HC27 := Aside0.mk H
           clear H
           have p614 : 0 ≤ (x80_2 : Int) := of_decide_eq_true (by first | (with_reducible assumption) | assumption)
           have q614 : x80_2 < (t604.length : Int) := of_decide_eq_true (by first | (with_reducible assumption) | assumption)
           obtain ⟨ad614, e614, hx614_0⟩ := Kd.at_int (Kd.R_reads' HO_78.out).2.2 x80_2 p614 q614
           cases e614
           replace p614 := eq_true p614
           replace q614 := eq_true q614
           go_upto_region 13 with (fail)
           go_cut [98] (fun v98 wc => ∃ (kq : Nat) (x98_26 : Bool), v98 = .bool x98_26 ∧ Aside0 (laws_FnGrades.j2 kq l1 t611 t612 x13_2 x14_2 (rd t604 x80_2) t604 (t604.length : Int) x80_2 x98_26 t592 t593 t594 t595 t598 t601 = some r) ∧ Aside0 (kq ≤ k2) ∧ Aside0 (Kd.R (Kd.int .i64) 3 wc w.heap.size (fun k_ => some k_ ≠ ((.slice Ao12 t595.length co12) : Value).ownBlock ∧ some k_ ≠ ((.slice Ao13 t598.length co13) : Value).ownBlock ∧ some k_ ≠ ((.slice Ao14 t601.length co14) : Value).ownBlock) (.slice (some ad614) t604.length co15) t604) ∧ Aside0 (Kd.R (Kd.int .i64) 3 wc w.heap.size (fun k_ => some k_ ≠ ((.slice (some ad614) t604.length co15) : Value).ownBlock ∧ some k_ ≠ ((.slice Ao13 t598.length co13) : Value).ownBlock ∧ some k_ ≠ ((.slice Ao14 t601.length co14) : Value).ownBlock) (.slice Ao12 t595.length co12) t595) ∧ Aside0 (Kd.R (Kd.int .i64) 3 wc w.heap.size (fun k_ => some k_ ≠ ((.slice (some ad614) t604.length co15) : Value).ownBlock ∧ some k_ ≠ ((.slice Ao12 t595.length co12) : Value).ownBlock ∧ some k_ ≠ ((.slice Ao14 t601.length co14) : Value).ownBlock) (.slice Ao13 t598.length co13) t598) ∧ Aside0 (Kd.R (Kd.int .i64) 3 wc w.heap.size (fun k_ => some k_ ≠ ((.slice (some ad614) t604.length co15) : Value).ownBlock ∧ some k_ ≠ ((.slice Ao12 t595.length co12) : Value).ownBlock ∧ some k_ ≠ ((.slice Ao13 t598.length co13) : Value).ownBlock) (.slice Ao14 t601.length co14) t601) ∧ Aside0 (wc.heap[gb607]? = some (.cells #[.int .i64 t592, .int .i64 t593, .int .i64 t594, (.slice Ao12 t595.length co12), (.slice Ao13 t598.length co13), (.slice Ao14 t601.length co14)] 30 (0, 0))) ∧ Aside0 (Below w.heap.size w wc))
           case first =>
            have H := HC27.out
            clear HC27
            by_cases c28 : 0 ≤ (rd t604 x80_2)
            ·rw [if_pos c28] at H
             have c28b0 : decide (0 ≤ (rd t604 x80_2)) = true := decide_eq_true c28
             clear c28
             (first | rw [c28b0] | (simp only [i64_w, i32_w]; rw [c28b0]) | skip)
             by_cases c29 : (rd t604 x80_2) < (t595.length : Int)
             ·rw [if_pos c29] at H
              have c29b0 : decide ((rd t604 x80_2) < (t595.length : Int)) = true := decide_eq_true c29
              clear c29
              by_cases c30 : (rd t595 (rd t604 x80_2)) > 0
              ·rw [if_pos c30] at H
               have c30b0 : decide (0 < (rd t595 (rd t604 x80_2))) = true := decide_eq_true c30
               clear c30
               by_cases c31 : (rd t604 x80_2) < (t598.length : Int)
               ·rw [if_pos c31] at H
                have c31b0 : decide ((rd t604 x80_2) < (t598.length : Int)) = true := decide_eq_true c31
                clear c31
                have H' := Aside0.mk H
                clear H
                have hcz32_0 : wr.cell? ⟨gb607, 0, none⟩ = some (.int .i64 t592) := (blk_cell BK607.out 0).trans rfl
                have hcz32_1 : wr.cell? ⟨gb607, 1, none⟩ = some (.int .i64 t593) := (blk_cell BK607.out 1).trans rfl
                have hcz32_2 : wr.cell? ⟨gb607, 2, none⟩ = some (.int .i64 t594) := (blk_cell BK607.out 2).trans rfl
                have hcz32_3 : wr.cell? ⟨gb607, 3, none⟩ = some (.slice Ao12 t595.length co12) := (blk_cell BK607.out 3).trans rfl
                have hcz32_4 : wr.cell? ⟨gb607, 4, none⟩ = some (.slice Ao13 t598.length co13) := (blk_cell BK607.out 4).trans rfl
                have hcz32_5 : wr.cell? ⟨gb607, 5, none⟩ = some (.slice Ao14 t601.length co14) := (blk_cell BK607.out 5).trans rfl
                have hfz32_0 := blk_frozen BK607.out 0
                have hfz32_1 := blk_frozen BK607.out 1
                have hfz32_2 := blk_frozen BK607.out 2
                have hfz32_3 := blk_frozen BK607.out 3
                have hfz32_4 := blk_frozen BK607.out 4
                have hfz32_5 := blk_frozen BK607.out 5
                have p615 : 0 ≤ ((rd t604 x80_2) : Int) := of_decide_eq_true (by first | (with_reducible assumption) | assumption)
                have q615 : (rd t604 x80_2) < (t595.length : Int) := of_decide_eq_true (by first | (with_reducible assumption) | assumption)
                obtain ⟨ad615, e615, hx615_0⟩ := Kd.at_int (Kd.R_reads' HO_608003.out).2.2 (rd t604 x80_2) p615 q615
                cases e615
                replace p615 := eq_true p615
                replace q615 := eq_true q615
                have p616 : 0 ≤ ((rd t604 x80_2) : Int) := of_decide_eq_true (by first | (with_reducible assumption) | assumption)
                have q616 : (rd t604 x80_2) < (t598.length : Int) := of_decide_eq_true (by first | (with_reducible assumption) | assumption)
                obtain ⟨ad616, e616, hx616_0⟩ := Kd.at_int (Kd.R_reads' HO_608004.out).2.2 (rd t604 x80_2) p616 q616
                cases e616
                replace p616 := eq_true p616
                replace q616 := eq_true q616
                go_wp2
                go_meet
                case rel => exact ⟨_, (decide ((rd t598 (rd t604 x80_2)) < x13_2)), (by first | rfl | (simp; done) | (simp [*]; done)), H', ⟨by have := HJ7.out; have := HK2.out; first | omega | exact Nat.le_refl _⟩, ⟨Kd.R_p HO_78⟩, ⟨Kd.R_p HO_608003⟩, ⟨Kd.R_p HO_608004⟩, ⟨Kd.R_p HO_608005⟩, ⟨kp_ BK607⟩, ⟨hb_ HB⟩⟩
               ·rw [if_neg c31] at H
                exact absurd H (by simp)
              ·rw [if_neg c30] at H
               have c30b0 : decide (0 < (rd t595 (rd t604 x80_2))) = false := decide_eq_false c30
               clear c30
               have H' := Aside0.mk H
               clear H
               have hcz33_0 : wr.cell? ⟨gb607, 0, none⟩ = some (.int .i64 t592) := (blk_cell BK607.out 0).trans rfl
               have hcz33_1 : wr.cell? ⟨gb607, 1, none⟩ = some (.int .i64 t593) := (blk_cell BK607.out 1).trans rfl
               have hcz33_2 : wr.cell? ⟨gb607, 2, none⟩ = some (.int .i64 t594) := (blk_cell BK607.out 2).trans rfl
               have hcz33_3 : wr.cell? ⟨gb607, 3, none⟩ = some (.slice Ao12 t595.length co12) := (blk_cell BK607.out 3).trans rfl
               have hcz33_4 : wr.cell? ⟨gb607, 4, none⟩ = some (.slice Ao13 t598.length co13) := (blk_cell BK607.out 4).trans rfl
               have hcz33_5 : wr.cell? ⟨gb607, 5, none⟩ = some (.slice Ao14 t601.length co14) := (blk_cell BK607.out 5).trans rfl
               have hfz33_0 := blk_frozen BK607.out 0
               have hfz33_1 := blk_frozen BK607.out 1
               have hfz33_2 := blk_frozen BK607.out 2
               have hfz33_3 := blk_frozen BK607.out 3
               have hfz33_4 := blk_frozen BK607.out 4
               have hfz33_5 := blk_frozen BK607.out 5
               have p615 : 0 ≤ ((rd t604 x80_2) : Int) := of_decide_eq_true (by first | (with_reducible assumption) | assumption)
               have q615 : (rd t604 x80_2) < (t595.length : Int) := of_decide_eq_true (by first | (with_reducible assumption) | assumption)
               obtain ⟨ad615, e615, hx615_0⟩ := Kd.at_int (Kd.R_reads' HO_608003.out).2.2 (rd t604 x80_2) p615 q615
               cases e615
               replace p615 := eq_true p615
               replace q615 := eq_true q615
               go_wp2
               go_meet
               case rel => exact ⟨_, (false), (by first | rfl | (simp; done) | (simp [*]; done)), H', ⟨by have := HJ7.out; have := HK2.out; first | omega | exact Nat.le_refl _⟩, ⟨Kd.R_p HO_78⟩, ⟨Kd.R_p HO_608003⟩, ⟨Kd.R_p HO_608004⟩, ⟨Kd.R_p HO_608005⟩, ⟨kp_ BK607⟩, ⟨hb_ HB⟩⟩
             ·rw [if_neg c29] at H
              exact absurd H (by simp)
            ·rw [if_neg c28] at H
             exact absurd H (by simp)
           case rest =>
            clear HC27
            (try clear c1); (try clear c2); (try clear p2); (try clear c3); (try clear c4); (try clear c6); (try clear p6); (try clear q6); (try clear hx6); (try clear c19); (try clear c19b0); (try clear c19b1); (try clear c19b2); (try clear c20); (try clear c20b0); (try clear c20b1); (try clear c21); (try clear c23); (try clear c24); (try clear c24b0); (try clear c25); (try clear c25b0); (try clear c26); (try clear c26b0); (try clear c27); (try clear c28); (try clear c28b0); (try clear c29); (try clear c29b0); (try clear c30); (try clear c30b0); (try clear c31); (try clear c31b0); (try clear hx614_0); (try clear p614); (try clear q614)
            obtain ⟨kq, x98_26, rfl, HA, HJ26, HO_78, HO_608003, HO_608004, HO_608005, BK607, HB⟩ := hcut
            cases kq with
            | zero => exact absurd HA.out (by simp [laws_FnGrades.j2])
            | succ kj26 =>
             refine ?z2_
             let rec p2_ : type_of% ?z2_ := by(
             have H := HA.out
             clear HA
             simp only [laws_FnGrades.j2] at H
             by_cases c34 : x98_26 = true
             ·subst c34
              have H1 : (if 0 ≤ (rd t604 x80_2) then (if (rd t604 x80_2) < (t598.length : Int) then (if (rd t604 x80_2) < (t595.length : Int) then (if (rd t595 (rd t604 x80_2)) > 0 then (if (rd t598 (rd t604 x80_2)) > x14_2 then (laws_FnGrades.l0 kj26 l1 t611 t612 (rd t598 (rd t604 x80_2)) (rd t598 (rd t604 x80_2)) t604 (t604.length : Int) (wrap64 (x80_2 + 1)) t592 t593 t594 t595 t598 t601) else (laws_FnGrades.l0 kj26 l1 t611 t612 (rd t598 (rd t604 x80_2)) x14_2 t604 (t604.length : Int) (wrap64 (x80_2 + 1)) t592 t593 t594 t595 t598 t601)) else (laws_FnGrades.l0 kj26 l1 t611 t612 (rd t598 (rd t604 x80_2)) x14_2 t604 (t604.length : Int) (wrap64 (x80_2 + 1)) t592 t593 t594 t595 t598 t601)) else (none)) else (none)) else (none)) = some r := by rw [if_pos rfl] at H; exact H
              clear H
              have H := H1
              clear H1
              by_cases c35 : 0 ≤ (rd t604 x80_2)
              ·rw [if_pos c35] at H
               have c35b0 : decide (0 ≤ (rd t604 x80_2)) = true := decide_eq_true c35
               clear c35
               by_cases c36 : (rd t604 x80_2) < (t598.length : Int)
               ·rw [if_pos c36] at H
                have c36b0 : decide ((rd t604 x80_2) < (t598.length : Int)) = true := decide_eq_true c36
                clear c36
                by_cases c37 : (rd t604 x80_2) < (t595.length : Int)
                ·rw [if_pos c37] at H
                 have c37b0 : decide ((rd t604 x80_2) < (t595.length : Int)) = true := decide_eq_true c37
                 clear c37
                 by_cases c38 : (rd t595 (rd t604 x80_2)) > 0
                 ·refine ?z3_
                  let rec p3_ : type_of% ?z3_ := by(
                  rw [if_pos c38] at H
                  have c38b0 : decide (0 < (rd t595 (rd t604 x80_2))) = true := decide_eq_true c38
                  clear c38
                  by_cases c39 : (rd t598 (rd t604 x80_2)) > x14_2
                  ·rw [if_pos c39] at H
                   have c39b0 : decide (x14_2 < (rd t598 (rd t604 x80_2))) = true := decide_eq_true c39
                   clear c39
                   have H' := Aside0.mk H
                   clear H
                   have hcz40_0 : wc.cell? ⟨gb607, 0, none⟩ = some (.int .i64 t592) := (blk_cell BK607.out 0).trans rfl
                   have hcz40_1 : wc.cell? ⟨gb607, 1, none⟩ = some (.int .i64 t593) := (blk_cell BK607.out 1).trans rfl
                   have hcz40_2 : wc.cell? ⟨gb607, 2, none⟩ = some (.int .i64 t594) := (blk_cell BK607.out 2).trans rfl
                   have hcz40_3 : wc.cell? ⟨gb607, 3, none⟩ = some (.slice Ao12 t595.length co12) := (blk_cell BK607.out 3).trans rfl
                   have hcz40_4 : wc.cell? ⟨gb607, 4, none⟩ = some (.slice Ao13 t598.length co13) := (blk_cell BK607.out 4).trans rfl
                   have hcz40_5 : wc.cell? ⟨gb607, 5, none⟩ = some (.slice Ao14 t601.length co14) := (blk_cell BK607.out 5).trans rfl
                   have hfz40_0 := blk_frozen BK607.out 0
                   have hfz40_1 := blk_frozen BK607.out 1
                   have hfz40_2 := blk_frozen BK607.out 2
                   have hfz40_3 := blk_frozen BK607.out 3
                   have hfz40_4 := blk_frozen BK607.out 4
                   have hfz40_5 := blk_frozen BK607.out 5
                   have p617 : 0 ≤ ((rd t604 x80_2) : Int) := of_decide_eq_true (by first | (with_reducible assumption) | assumption)
                   have q617 : (rd t604 x80_2) < (t598.length : Int) := of_decide_eq_true (by first | (with_reducible assumption) | assumption)
                   obtain ⟨ad617, e617, hx617_0⟩ := Kd.at_int (Kd.R_reads' HO_608004.out).2.2 (rd t604 x80_2) p617 q617
                   cases e617
                   replace p617 := eq_true p617
                   replace q617 := eq_true q617
                   have p618 : 0 ≤ ((rd t604 x80_2) : Int) := of_decide_eq_true (by first | (with_reducible assumption) | assumption)
                   have q618 : (rd t604 x80_2) < (t595.length : Int) := of_decide_eq_true (by first | (with_reducible assumption) | assumption)
                   obtain ⟨ad618, e618, hx618_0⟩ := Kd.at_int (Kd.R_reads' HO_608003.out).2.2 (rd t604 x80_2) p618 q618
                   cases e618
                   replace p618 := eq_true p618
                   replace q618 := eq_true q618
                   have p619 : 0 ≤ ((rd t604 x80_2) : Int) := of_decide_eq_true (by first | (with_reducible assumption) | assumption)
                   have q619 : (rd t604 x80_2) < (t598.length : Int) := of_decide_eq_true (by first | (with_reducible assumption) | assumption)
                   obtain ⟨ad619, e619, hx619_0⟩ := Kd.at_int (Kd.R_reads' HO_608004.out).2.2 (rd t604 x80_2) p619 q619
                   obtain rfl : ad617 = ad619 := (by injection e619)
                   replace p619 := eq_true p619
                   replace q619 := eq_true q619
                   have p620 : 0 ≤ ((rd t604 x80_2) : Int) := of_decide_eq_true (by first | (with_reducible assumption) | assumption)
                   have q620 : (rd t604 x80_2) < (t598.length : Int) := of_decide_eq_true (by first | (with_reducible assumption) | assumption)
                   obtain ⟨ad620, e620, hx620_0⟩ := Kd.at_int (Kd.R_reads' HO_608004.out).2.2 (rd t604 x80_2) p620 q620
                   obtain rfl : ad617 = ad620 := (by injection e620)
                   replace p620 := eq_true p620
                   replace q620 := eq_true q620
                   go_wp2
                   go_roundg kj26
                   case measure => have := HJ7.out; have := HK2.out; have := HJ26.out; omega
                   case rel => exact ⟨(rd t598 (rd t604 x80_2)), (rd t598 (rd t604 x80_2)), (wrap64 (x80_2 + 1)), (by first | rfl | (simp; done) | (simp [*]; done)), (by first | rfl | (simp; done) | (simp [*]; done)), (by first | rfl | (simp; done) | (simp [*]; done)), H', ⟨by have := HJ7.out; have := HK2.out; have := HJ26.out; omega⟩, ⟨Kd.R_p HO_78⟩, ⟨Kd.R_p HO_608003⟩, ⟨Kd.R_p HO_608004⟩, ⟨Kd.R_p HO_608005⟩, ⟨kp_ BK607⟩, ⟨hb_ HB⟩⟩
                  ·rw [if_neg c39] at H
                   have c39b0 : decide (x14_2 < (rd t598 (rd t604 x80_2))) = false := decide_eq_false c39
                   clear c39
                   have H' := Aside0.mk H
                   clear H
                   have hcz41_0 : wc.cell? ⟨gb607, 0, none⟩ = some (.int .i64 t592) := (blk_cell BK607.out 0).trans rfl
                   have hcz41_1 : wc.cell? ⟨gb607, 1, none⟩ = some (.int .i64 t593) := (blk_cell BK607.out 1).trans rfl
                   have hcz41_2 : wc.cell? ⟨gb607, 2, none⟩ = some (.int .i64 t594) := (blk_cell BK607.out 2).trans rfl
                   have hcz41_3 : wc.cell? ⟨gb607, 3, none⟩ = some (.slice Ao12 t595.length co12) := (blk_cell BK607.out 3).trans rfl
                   have hcz41_4 : wc.cell? ⟨gb607, 4, none⟩ = some (.slice Ao13 t598.length co13) := (blk_cell BK607.out 4).trans rfl
                   have hcz41_5 : wc.cell? ⟨gb607, 5, none⟩ = some (.slice Ao14 t601.length co14) := (blk_cell BK607.out 5).trans rfl
                   have hfz41_0 := blk_frozen BK607.out 0
                   have hfz41_1 := blk_frozen BK607.out 1
                   have hfz41_2 := blk_frozen BK607.out 2
                   have hfz41_3 := blk_frozen BK607.out 3
                   have hfz41_4 := blk_frozen BK607.out 4
                   have hfz41_5 := blk_frozen BK607.out 5
                   have p617 : 0 ≤ ((rd t604 x80_2) : Int) := of_decide_eq_true (by first | (with_reducible assumption) | assumption)
                   have q617 : (rd t604 x80_2) < (t598.length : Int) := of_decide_eq_true (by first | (with_reducible assumption) | assumption)
                   obtain ⟨ad617, e617, hx617_0⟩ := Kd.at_int (Kd.R_reads' HO_608004.out).2.2 (rd t604 x80_2) p617 q617
                   cases e617
                   replace p617 := eq_true p617
                   replace q617 := eq_true q617
                   have p618 : 0 ≤ ((rd t604 x80_2) : Int) := of_decide_eq_true (by first | (with_reducible assumption) | assumption)
                   have q618 : (rd t604 x80_2) < (t595.length : Int) := of_decide_eq_true (by first | (with_reducible assumption) | assumption)
                   obtain ⟨ad618, e618, hx618_0⟩ := Kd.at_int (Kd.R_reads' HO_608003.out).2.2 (rd t604 x80_2) p618 q618
                   cases e618
                   replace p618 := eq_true p618
                   replace q618 := eq_true q618
                   have p619 : 0 ≤ ((rd t604 x80_2) : Int) := of_decide_eq_true (by first | (with_reducible assumption) | assumption)
                   have q619 : (rd t604 x80_2) < (t598.length : Int) := of_decide_eq_true (by first | (with_reducible assumption) | assumption)
                   obtain ⟨ad619, e619, hx619_0⟩ := Kd.at_int (Kd.R_reads' HO_608004.out).2.2 (rd t604 x80_2) p619 q619
                   obtain rfl : ad617 = ad619 := (by injection e619)
                   replace p619 := eq_true p619
                   replace q619 := eq_true q619
                   go_wp2
                   go_roundg kj26
                   case measure => have := HJ7.out; have := HK2.out; have := HJ26.out; omega
                   case rel => exact ⟨(rd t598 (rd t604 x80_2)), (x14_2), (wrap64 (x80_2 + 1)), (by first | rfl | (simp; done) | (simp [*]; done)), (by first | rfl | (simp; done) | (simp [*]; done)), (by first | rfl | (simp; done) | (simp [*]; done)), H', ⟨by have := HJ7.out; have := HK2.out; have := HJ26.out; omega⟩, ⟨Kd.R_p HO_78⟩, ⟨Kd.R_p HO_608003⟩, ⟨Kd.R_p HO_608004⟩, ⟨Kd.R_p HO_608005⟩, ⟨kp_ BK607⟩, ⟨hb_ HB⟩⟩
                  )
                  exact p3_
                 ·rw [if_neg c38] at H
                  have c38b0 : decide (0 < (rd t595 (rd t604 x80_2))) = false := decide_eq_false c38
                  clear c38
                  have H' := Aside0.mk H
                  clear H
                  have hcz42_0 : wc.cell? ⟨gb607, 0, none⟩ = some (.int .i64 t592) := (blk_cell BK607.out 0).trans rfl
                  have hcz42_1 : wc.cell? ⟨gb607, 1, none⟩ = some (.int .i64 t593) := (blk_cell BK607.out 1).trans rfl
                  have hcz42_2 : wc.cell? ⟨gb607, 2, none⟩ = some (.int .i64 t594) := (blk_cell BK607.out 2).trans rfl
                  have hcz42_3 : wc.cell? ⟨gb607, 3, none⟩ = some (.slice Ao12 t595.length co12) := (blk_cell BK607.out 3).trans rfl
                  have hcz42_4 : wc.cell? ⟨gb607, 4, none⟩ = some (.slice Ao13 t598.length co13) := (blk_cell BK607.out 4).trans rfl
                  have hcz42_5 : wc.cell? ⟨gb607, 5, none⟩ = some (.slice Ao14 t601.length co14) := (blk_cell BK607.out 5).trans rfl
                  have hfz42_0 := blk_frozen BK607.out 0
                  have hfz42_1 := blk_frozen BK607.out 1
                  have hfz42_2 := blk_frozen BK607.out 2
                  have hfz42_3 := blk_frozen BK607.out 3
                  have hfz42_4 := blk_frozen BK607.out 4
                  have hfz42_5 := blk_frozen BK607.out 5
                  have p617 : 0 ≤ ((rd t604 x80_2) : Int) := of_decide_eq_true (by first | (with_reducible assumption) | assumption)
                  have q617 : (rd t604 x80_2) < (t598.length : Int) := of_decide_eq_true (by first | (with_reducible assumption) | assumption)
                  obtain ⟨ad617, e617, hx617_0⟩ := Kd.at_int (Kd.R_reads' HO_608004.out).2.2 (rd t604 x80_2) p617 q617
                  cases e617
                  replace p617 := eq_true p617
                  replace q617 := eq_true q617
                  have p618 : 0 ≤ ((rd t604 x80_2) : Int) := of_decide_eq_true (by first | (with_reducible assumption) | assumption)
                  have q618 : (rd t604 x80_2) < (t595.length : Int) := of_decide_eq_true (by first | (with_reducible assumption) | assumption)
                  obtain ⟨ad618, e618, hx618_0⟩ := Kd.at_int (Kd.R_reads' HO_608003.out).2.2 (rd t604 x80_2) p618 q618
                  cases e618
                  replace p618 := eq_true p618
                  replace q618 := eq_true q618
                  go_wp2
                  go_roundg kj26
                  case measure => have := HJ7.out; have := HK2.out; have := HJ26.out; omega
                  case rel => exact ⟨(rd t598 (rd t604 x80_2)), (x14_2), (wrap64 (x80_2 + 1)), (by first | rfl | (simp; done) | (simp [*]; done)), (by first | rfl | (simp; done) | (simp [*]; done)), (by first | rfl | (simp; done) | (simp [*]; done)), H', ⟨by have := HJ7.out; have := HK2.out; have := HJ26.out; omega⟩, ⟨Kd.R_p HO_78⟩, ⟨Kd.R_p HO_608003⟩, ⟨Kd.R_p HO_608004⟩, ⟨Kd.R_p HO_608005⟩, ⟨kp_ BK607⟩, ⟨hb_ HB⟩⟩
                ·rw [if_neg c37] at H
                 exact absurd H (by simp)
               ·rw [if_neg c36] at H
                exact absurd H (by simp)
              ·rw [if_neg c35] at H
               exact absurd H (by simp)
             ·replace c34 := Bool.eq_false_iff.mpr c34
              subst c34
              have H1 : (if 0 ≤ (rd t604 x80_2) then (if (rd t604 x80_2) < (t595.length : Int) then (if (rd t595 (rd t604 x80_2)) > 0 then (if (rd t604 x80_2) < (t598.length : Int) then (if (rd t598 (rd t604 x80_2)) > x14_2 then (laws_FnGrades.l0 kj26 l1 t611 t612 x13_2 (rd t598 (rd t604 x80_2)) t604 (t604.length : Int) (wrap64 (x80_2 + 1)) t592 t593 t594 t595 t598 t601) else (laws_FnGrades.l0 kj26 l1 t611 t612 x13_2 x14_2 t604 (t604.length : Int) (wrap64 (x80_2 + 1)) t592 t593 t594 t595 t598 t601)) else (none)) else (laws_FnGrades.l0 kj26 l1 t611 t612 x13_2 x14_2 t604 (t604.length : Int) (wrap64 (x80_2 + 1)) t592 t593 t594 t595 t598 t601)) else (none)) else (none)) = some r := by rw [if_neg (show ¬ (false = true) by decide)] at H; exact H
              clear H
              have H := H1
              clear H1
              by_cases c43 : 0 ≤ (rd t604 x80_2)
              ·rw [if_pos c43] at H
               have c43b0 : decide (0 ≤ (rd t604 x80_2)) = true := decide_eq_true c43
               clear c43
               by_cases c44 : (rd t604 x80_2) < (t595.length : Int)
               ·rw [if_pos c44] at H
                have c44b0 : decide ((rd t604 x80_2) < (t595.length : Int)) = true := decide_eq_true c44
                clear c44
                by_cases c45 : (rd t595 (rd t604 x80_2)) > 0
                ·rw [if_pos c45] at H
                 have c45b0 : decide (0 < (rd t595 (rd t604 x80_2))) = true := decide_eq_true c45
                 clear c45
                 by_cases c46 : (rd t604 x80_2) < (t598.length : Int)
                 ·refine ?z4_
                  let rec p4_ : type_of% ?z4_ := by(
                  rw [if_pos c46] at H
                  have c46b0 : decide ((rd t604 x80_2) < (t598.length : Int)) = true := decide_eq_true c46
                  clear c46
                  by_cases c47 : (rd t598 (rd t604 x80_2)) > x14_2
                  ·rw [if_pos c47] at H
                   have c47b0 : decide (x14_2 < (rd t598 (rd t604 x80_2))) = true := decide_eq_true c47
                   clear c47
                   have H' := Aside0.mk H
                   clear H
                   have hcz48_0 : wc.cell? ⟨gb607, 0, none⟩ = some (.int .i64 t592) := (blk_cell BK607.out 0).trans rfl
                   have hcz48_1 : wc.cell? ⟨gb607, 1, none⟩ = some (.int .i64 t593) := (blk_cell BK607.out 1).trans rfl
                   have hcz48_2 : wc.cell? ⟨gb607, 2, none⟩ = some (.int .i64 t594) := (blk_cell BK607.out 2).trans rfl
                   have hcz48_3 : wc.cell? ⟨gb607, 3, none⟩ = some (.slice Ao12 t595.length co12) := (blk_cell BK607.out 3).trans rfl
                   have hcz48_4 : wc.cell? ⟨gb607, 4, none⟩ = some (.slice Ao13 t598.length co13) := (blk_cell BK607.out 4).trans rfl
                   have hcz48_5 : wc.cell? ⟨gb607, 5, none⟩ = some (.slice Ao14 t601.length co14) := (blk_cell BK607.out 5).trans rfl
                   have hfz48_0 := blk_frozen BK607.out 0
                   have hfz48_1 := blk_frozen BK607.out 1
                   have hfz48_2 := blk_frozen BK607.out 2
                   have hfz48_3 := blk_frozen BK607.out 3
                   have hfz48_4 := blk_frozen BK607.out 4
                   have hfz48_5 := blk_frozen BK607.out 5
                   have p621 : 0 ≤ ((rd t604 x80_2) : Int) := of_decide_eq_true (by first | (with_reducible assumption) | assumption)
                   have q621 : (rd t604 x80_2) < (t595.length : Int) := of_decide_eq_true (by first | (with_reducible assumption) | assumption)
                   obtain ⟨ad621, e621, hx621_0⟩ := Kd.at_int (Kd.R_reads' HO_608003.out).2.2 (rd t604 x80_2) p621 q621
                   cases e621
                   replace p621 := eq_true p621
                   replace q621 := eq_true q621
                   have p622 : 0 ≤ ((rd t604 x80_2) : Int) := of_decide_eq_true (by first | (with_reducible assumption) | assumption)
                   have q622 : (rd t604 x80_2) < (t598.length : Int) := of_decide_eq_true (by first | (with_reducible assumption) | assumption)
                   obtain ⟨ad622, e622, hx622_0⟩ := Kd.at_int (Kd.R_reads' HO_608004.out).2.2 (rd t604 x80_2) p622 q622
                   cases e622
                   replace p622 := eq_true p622
                   replace q622 := eq_true q622
                   have p623 : 0 ≤ ((rd t604 x80_2) : Int) := of_decide_eq_true (by first | (with_reducible assumption) | assumption)
                   have q623 : (rd t604 x80_2) < (t598.length : Int) := of_decide_eq_true (by first | (with_reducible assumption) | assumption)
                   obtain ⟨ad623, e623, hx623_0⟩ := Kd.at_int (Kd.R_reads' HO_608004.out).2.2 (rd t604 x80_2) p623 q623
                   obtain rfl : ad622 = ad623 := (by injection e623)
                   replace p623 := eq_true p623
                   replace q623 := eq_true q623
                   go_wp2
                   go_roundg kj26
                   case measure => have := HJ7.out; have := HK2.out; have := HJ26.out; omega
                   case rel => exact ⟨(x13_2), (rd t598 (rd t604 x80_2)), (wrap64 (x80_2 + 1)), (by first | rfl | (simp; done) | (simp [*]; done)), (by first | rfl | (simp; done) | (simp [*]; done)), (by first | rfl | (simp; done) | (simp [*]; done)), H', ⟨by have := HJ7.out; have := HK2.out; have := HJ26.out; omega⟩, ⟨Kd.R_p HO_78⟩, ⟨Kd.R_p HO_608003⟩, ⟨Kd.R_p HO_608004⟩, ⟨Kd.R_p HO_608005⟩, ⟨kp_ BK607⟩, ⟨hb_ HB⟩⟩
                  ·rw [if_neg c47] at H
                   have c47b0 : decide (x14_2 < (rd t598 (rd t604 x80_2))) = false := decide_eq_false c47
                   clear c47
                   have H' := Aside0.mk H
                   clear H
                   have hcz49_0 : wc.cell? ⟨gb607, 0, none⟩ = some (.int .i64 t592) := (blk_cell BK607.out 0).trans rfl
                   have hcz49_1 : wc.cell? ⟨gb607, 1, none⟩ = some (.int .i64 t593) := (blk_cell BK607.out 1).trans rfl
                   have hcz49_2 : wc.cell? ⟨gb607, 2, none⟩ = some (.int .i64 t594) := (blk_cell BK607.out 2).trans rfl
                   have hcz49_3 : wc.cell? ⟨gb607, 3, none⟩ = some (.slice Ao12 t595.length co12) := (blk_cell BK607.out 3).trans rfl
                   have hcz49_4 : wc.cell? ⟨gb607, 4, none⟩ = some (.slice Ao13 t598.length co13) := (blk_cell BK607.out 4).trans rfl
                   have hcz49_5 : wc.cell? ⟨gb607, 5, none⟩ = some (.slice Ao14 t601.length co14) := (blk_cell BK607.out 5).trans rfl
                   have hfz49_0 := blk_frozen BK607.out 0
                   have hfz49_1 := blk_frozen BK607.out 1
                   have hfz49_2 := blk_frozen BK607.out 2
                   have hfz49_3 := blk_frozen BK607.out 3
                   have hfz49_4 := blk_frozen BK607.out 4
                   have hfz49_5 := blk_frozen BK607.out 5
                   have p621 : 0 ≤ ((rd t604 x80_2) : Int) := of_decide_eq_true (by first | (with_reducible assumption) | assumption)
                   have q621 : (rd t604 x80_2) < (t595.length : Int) := of_decide_eq_true (by first | (with_reducible assumption) | assumption)
                   obtain ⟨ad621, e621, hx621_0⟩ := Kd.at_int (Kd.R_reads' HO_608003.out).2.2 (rd t604 x80_2) p621 q621
                   cases e621
                   replace p621 := eq_true p621
                   replace q621 := eq_true q621
                   have p622 : 0 ≤ ((rd t604 x80_2) : Int) := of_decide_eq_true (by first | (with_reducible assumption) | assumption)
                   have q622 : (rd t604 x80_2) < (t598.length : Int) := of_decide_eq_true (by first | (with_reducible assumption) | assumption)
                   obtain ⟨ad622, e622, hx622_0⟩ := Kd.at_int (Kd.R_reads' HO_608004.out).2.2 (rd t604 x80_2) p622 q622
                   cases e622
                   replace p622 := eq_true p622
                   replace q622 := eq_true q622
                   go_wp2
                   go_roundg kj26
                   case measure => have := HJ7.out; have := HK2.out; have := HJ26.out; omega
                   case rel => exact ⟨(x13_2), (x14_2), (wrap64 (x80_2 + 1)), (by first | rfl | (simp; done) | (simp [*]; done)), (by first | rfl | (simp; done) | (simp [*]; done)), (by first | rfl | (simp; done) | (simp [*]; done)), H', ⟨by have := HJ7.out; have := HK2.out; have := HJ26.out; omega⟩, ⟨Kd.R_p HO_78⟩, ⟨Kd.R_p HO_608003⟩, ⟨Kd.R_p HO_608004⟩, ⟨Kd.R_p HO_608005⟩, ⟨kp_ BK607⟩, ⟨hb_ HB⟩⟩
                  )
                  exact p4_
                 ·rw [if_neg c46] at H
                  exact absurd H (by simp)
                ·rw [if_neg c45] at H
                 have c45b0 : decide (0 < (rd t595 (rd t604 x80_2))) = false := decide_eq_false c45
                 clear c45
                 have H' := Aside0.mk H
                 clear H
                 have hcz50_0 : wc.cell? ⟨gb607, 0, none⟩ = some (.int .i64 t592) := (blk_cell BK607.out 0).trans rfl
                 have hcz50_1 : wc.cell? ⟨gb607, 1, none⟩ = some (.int .i64 t593) := (blk_cell BK607.out 1).trans rfl
                 have hcz50_2 : wc.cell? ⟨gb607, 2, none⟩ = some (.int .i64 t594) := (blk_cell BK607.out 2).trans rfl
                 have hcz50_3 : wc.cell? ⟨gb607, 3, none⟩ = some (.slice Ao12 t595.length co12) := (blk_cell BK607.out 3).trans rfl
                 have hcz50_4 : wc.cell? ⟨gb607, 4, none⟩ = some (.slice Ao13 t598.length co13) := (blk_cell BK607.out 4).trans rfl
                 have hcz50_5 : wc.cell? ⟨gb607, 5, none⟩ = some (.slice Ao14 t601.length co14) := (blk_cell BK607.out 5).trans rfl
                 have hfz50_0 := blk_frozen BK607.out 0
                 have hfz50_1 := blk_frozen BK607.out 1
                 have hfz50_2 := blk_frozen BK607.out 2
                 have hfz50_3 := blk_frozen BK607.out 3
                 have hfz50_4 := blk_frozen BK607.out 4
                 have hfz50_5 := blk_frozen BK607.out 5
                 have p621 : 0 ≤ ((rd t604 x80_2) : Int) := of_decide_eq_true (by first | (with_reducible assumption) | assumption)
                 have q621 : (rd t604 x80_2) < (t595.length : Int) := of_decide_eq_true (by first | (with_reducible assumption) | assumption)
                 obtain ⟨ad621, e621, hx621_0⟩ := Kd.at_int (Kd.R_reads' HO_608003.out).2.2 (rd t604 x80_2) p621 q621
                 cases e621
                 replace p621 := eq_true p621
                 replace q621 := eq_true q621
                 go_wp2
                 go_roundg kj26
                 case measure => have := HJ7.out; have := HK2.out; have := HJ26.out; omega
                 case rel => exact ⟨(x13_2), (x14_2), (wrap64 (x80_2 + 1)), (by first | rfl | (simp; done) | (simp [*]; done)), (by first | rfl | (simp; done) | (simp [*]; done)), (by first | rfl | (simp; done) | (simp [*]; done)), H', ⟨by have := HJ7.out; have := HK2.out; have := HJ26.out; omega⟩, ⟨Kd.R_p HO_78⟩, ⟨Kd.R_p HO_608003⟩, ⟨Kd.R_p HO_608004⟩, ⟨Kd.R_p HO_608005⟩, ⟨kp_ BK607⟩, ⟨hb_ HB⟩⟩
               ·rw [if_neg c44] at H
                exact absurd H (by simp)
              ·rw [if_neg c43] at H
               exact absurd H (by simp)
             )
             exact p2_
           )
           exact p1_
          ·rw [if_neg c26] at H
           exact absurd H (by simp)
         ·rw [if_neg c25] at H
          exact absurd H (by simp)
        ·rw [if_neg c24] at H
         have c24b0 : decide (x80_2 < (t604.length : Int)) = false := decide_eq_false c24
         clear c24
         (first | rw [c24b0] | (simp only [i64_w, i32_w]; rw [c24b0]) | skip)
         by_cases c51 : t612 < 1
         ·rw [if_pos c51] at H
          have c51b0 : decide (t612 < 1) = true := decide_eq_true c51
          clear c51
          obtain rfl := Option.some.inj H
          go_wp2
          go_ret
          exact ⟨by first | rfl | (simp [errW_none, errW_some] <;> rfl) | (simp [*, errW_none, errW_some] <;> rfl), hb_ HB⟩
         ·rw [if_neg c51] at H
          have c51b0 : decide (t612 < 1) = false := decide_eq_false c51
          clear c51
          by_cases c52 : t611 < (wrap64 (x13_2 * t612))
          ·rw [if_pos c52] at H
           have c52b0 : decide (t611 < (wrap64 (x13_2 * t612))) = true := decide_eq_true c52
           clear c52
           obtain rfl := Option.some.inj H
           go_wp2
           go_ret
           exact ⟨by first | rfl | (simp [errW_none, errW_some] <;> rfl) | (simp [*, errW_none, errW_some] <;> rfl), hb_ HB⟩
          ·rw [if_neg c52] at H
           have c52b0 : decide (t611 < (wrap64 (x13_2 * t612))) = false := decide_eq_false c52
           clear c52
           by_cases c53 : t611 > (wrap64 (x14_2 * t612))
           ·rw [if_pos c53] at H
            have c53b0 : decide ((wrap64 (x14_2 * t612)) < t611) = true := decide_eq_true c53
            clear c53
            obtain rfl := Option.some.inj H
            go_wp2
            go_ret
            exact ⟨by first | rfl | (simp [errW_none, errW_some] <;> rfl) | (simp [*, errW_none, errW_some] <;> rfl), hb_ HB⟩
           ·rw [if_neg c53] at H
            have c53b0 : decide ((wrap64 (x14_2 * t612)) < t611) = false := decide_eq_false c53
            clear c53
            have H' := Aside0.mk H
            clear H
            go_wp2
            go_meet
            case rel => exact ⟨_, H', ⟨by have := HJ7.out; have := HK2.out; first | omega | exact Nat.le_refl _⟩, ⟨hb_ HB⟩⟩
     ·replace c23 := Bool.eq_false_iff.mpr c23
      subst c23
      have H1 : (laws_FnGrades.j3 kj7 l1) = some r := by rw [if_neg (show ¬ (false = true) by decide)] at H; exact H
      clear H
      have H := H1
      clear H1
      have H' := Aside0.mk H
      clear H
      go_wp2
      go_meet
      case rel => exact ⟨_, H', ⟨by have := HJ7.out; first | omega | exact Nat.le_refl _⟩, ⟨hb_ HB⟩⟩
    case rest =>
     (try revert kj26); (try revert x98_26); (try revert k2); (try revert x80_2); (try revert x14_2); (try revert x13_2); (try revert kj7); (try revert x76_7); (try revert kq); (try revert wc); (try revert w18); (try revert w16); (try revert co15); (try revert Ao15); (try revert co14); (try revert Ao14); (try revert co13); (try revert Ao13); (try revert co12); (try revert Ao12); (try revert w10); (try revert gb607); (try revert v605); (try revert v602); (try revert v599); (try revert v596); (try revert w9); (try revert A70); (try revert t613); (try revert t612); (try revert t611); (try revert A60); (try revert t610)
     (try revert t609); (try revert t608); (try revert A50); (try revert t604); (try revert t601); (try revert t598); (try revert t595); (try revert t594); (try revert t593); (try revert t592); (try revert nd); (try revert e); (try revert A30); (try revert t591); (try revert w); (try revert r); (try revert l1); (try revert c1); (try revert A1); (try revert l0); (try revert c0); (try revert A0); (try revert k)
     (try revert u0); (try revert u1); (try revert u2); (try revert u3); (try revert u4); (try revert u5); (try revert u6); (try revert u7); (try revert u8); (try revert u9); (try revert u10); (try revert u11); (try revert u12); (try revert u13); (try revert u14); (try revert u15); (try revert u16); (try revert u17); (try revert u18); (try revert u19); (try revert u20); (try revert u21); (try revert u22); (try revert u23); (try revert u24); (try revert u25); (try revert u26); (try revert u27); (try revert u28); (try revert u29); (try revert u30); (try revert u31); (try revert u32); (try revert u33); (try revert u34); (try revert u35); (try revert u36); (try revert u37); (try revert u38); (try revert u39); (try revert u40); (try revert u41); (try revert u42); (try revert u43); (try revert u44); (try revert u45); (try revert u46); (try revert u47); (try revert u48); (try revert u49); (try revert u50); (try revert u51); (try revert u52); (try revert u53); (try revert u54); (try revert u55); (try revert u56); (try revert u57); (try revert u58); (try revert u59); (try revert u60); (try revert u61); (try revert u62); (try revert u63); (try revert u64); (try revert u65); (try revert u66); (try revert u67); (try revert u68); (try revert u69); (try revert u70); (try revert u71); (try revert u72); (try revert u73); (try revert u74); (try revert u75); (try revert u76); (try revert u77); (try revert u78); (try revert u79); (try revert u80); (try revert u81); (try revert u82); (try revert u83); (try revert u84); (try revert u85); (try revert u86); (try revert u87); (try revert u88); (try revert u89); (try revert u90); (try revert u91); (try revert u92); (try revert u93); (try revert u94); (try revert u95); (try revert u96); (try revert u97); (try revert u98); (try revert u99); (try revert u100); (try revert u101); (try revert u102); (try revert u103); (try revert u104); (try revert u105); (try revert u106); (try revert u107); (try revert u108); (try revert u109); (try revert u110); (try revert u111); (try revert u112); (try revert u113); (try revert u114); (try revert u115); (try revert u116); (try revert u117); (try revert u118); (try revert u119); (try revert u120); (try revert u121); (try revert u122); (try revert u123); (try revert u124); (try revert u125); (try revert u126); (try revert u127); (try revert u128); (try revert u129); (try revert u130); (try revert u131); (try revert u132); (try revert u133); (try revert u134); (try revert u135); (try revert u136); (try revert u137); (try revert u138); (try revert u139); (try revert u140); (try revert u141); (try revert u142); (try revert u143); (try revert u144); (try revert u145); (try revert u146); (try revert u147); (try revert u148); (try revert u149); (try revert u150); (try revert u151); (try revert u152); (try revert u153); (try revert u154); (try revert u155); (try revert u156); (try revert u157); (try revert u158); (try revert u159); (try revert u160); (try revert u161); (try revert u162); (try revert u163); (try revert u164); (try revert u165); (try revert u166); (try revert u167); (try revert u168); (try revert u169); (try revert u170); (try revert u171); (try revert u172); (try revert u173); (try revert u174); (try revert u175); (try revert u176); (try revert u177); (try revert u178); (try revert u179); (try revert u180); (try revert u181); (try revert u182); (try revert u183); (try revert u184); (try revert u185); (try revert u186); (try revert u187); (try revert u188); (try revert u189); (try revert u190); (try revert u191); (try revert u192); (try revert u193); (try revert u194); (try revert u195); (try revert u196); (try revert u197); (try revert u198); (try revert u199); (try revert u200); (try revert u201); (try revert u202); (try revert u203); (try revert u204); (try revert u205); (try revert u206); (try revert u207); (try revert u208); (try revert u209); (try revert u210); (try revert u211); (try revert u212); (try revert u213); (try revert u214); (try revert u215); (try revert u216); (try revert u217); (try revert u218); (try revert u219); (try revert u220); (try revert u221); (try revert u222); (try revert u223); (try revert u224); (try revert u225); (try revert u226); (try revert u227); (try revert u228); (try revert u229); (try revert u230); (try revert u231); (try revert u232); (try revert u233); (try revert u234); (try revert u235); (try revert u236); (try revert u237); (try revert u238); (try revert u239); (try revert u240); (try revert u241); (try revert u242); (try revert u243); (try revert u244); (try revert u245); (try revert u246); (try revert u247); (try revert u248); (try revert u249); (try revert u250); (try revert u251); (try revert u252); (try revert u253); (try revert u254); (try revert u255); (try revert u256); (try revert u257); (try revert u258); (try revert u259); (try revert u260); (try revert u261); (try revert u262); (try revert u263); (try revert u264); (try revert u265); (try revert u266); (try revert u267); (try revert u268); (try revert u269); (try revert u270); (try revert u271); (try revert u272); (try revert u273); (try revert u274); (try revert u275); (try revert u276); (try revert u277); (try revert u278); (try revert u279); (try revert u280); (try revert u281); (try revert u282); (try revert u283); (try revert u284); (try revert u285); (try revert u286); (try revert u287); (try revert u288); (try revert u289); (try revert u290); (try revert u291); (try revert u292); (try revert u293); (try revert u294); (try revert u295); (try revert u296); (try revert u297); (try revert u298); (try revert u299); (try revert u300); (try revert u301); (try revert u302); (try revert u303); (try revert u304); (try revert u305); (try revert u306); (try revert u307); (try revert u308); (try revert u309); (try revert u310); (try revert u311); (try revert u312); (try revert u313); (try revert u314); (try revert u315); (try revert u316); (try revert u317); (try revert u318); (try revert u319); (try revert u320); (try revert u321); (try revert u322); (try revert u323); (try revert u324); (try revert u325); (try revert u326); (try revert u327); (try revert u328); (try revert u329); (try revert u330)
     repeat (rename Value => z_; revert z_)
     repeat (rename World => z_; revert z_)
     repeat (rename Nat => z_; revert z_)
     repeat (rename Int => z_; revert z_)
     repeat (rename Bool => z_; revert z_)
     repeat (rename (Option Addr) => z_; revert z_)
     repeat (rename (Exit → Act → World → Prop) => z_; revert z_)
     repeat (rename (Act → World → Prop) => z_; revert z_)
     have dm_ := trivial; revert dm_
     exact hR_.elim id
  ⟩
end Go.Proofs.Ytdfjlelbkkaloaa.PFnGrades
