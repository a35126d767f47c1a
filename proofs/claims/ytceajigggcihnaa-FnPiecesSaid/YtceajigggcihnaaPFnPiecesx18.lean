-- Laid for this claim by wip/tools/print2.sh, a changed copy of the kit's print (wip/tools/patch_print.py): not by print.sh.
import Derived.Test.YtceajigggcihnaaPFnPiecesx17
namespace Go.Proofs.Ytceajigggcihnaa.PFnPieces
open Go.RowKit Go.Proofs.YtceajigggcihnaaW.PrintWords Go.Proofs.YtceajigggcihnaaW.PrintLast Go.Proofs.YtceajigggcihnaaW.PrintMore
attribute [local go_sem] max2_int min2_int max_two min_two max_three min_three max_four min_four   -- for this text's walks alone
set_option linter.unusedVariables false
set_option linter.unusedSimpArgs false

attribute [local go_sem high] eqA29
set_option maxHeartbeats 8000000 in
set_option maxRecDepth 100000 in
theorem laws_FnPieces.rest2 : laws_FnPieces.top2.1 := by
  intro k; unhygienic intros; have hu29 := Try.underlying29; have hu34 := Try.underlying34
  clear HC109
  (try clear c1); (try clear p2); (try clear c4); (try clear c6); (try clear p6); (try clear c10); (try clear c11); (try clear c46); (try clear c60); (try clear p64); (try clear c108); (try clear c110); (try clear c111); (try clear c111b0)
  obtain ⟨kq, x173_108, rfl, HA, HJ108, HO_6, HO_7, HO_9, HO_595003, HO_595004, HO_595005, BK558, BK594, BK599, BK604, HB⟩ := hcut
  cases kq with
  | zero => exact absurd HA.out (by simp [laws_FnPieces.j1])
  | succ kj108 =>
   have H := HA.out
   clear HA
   simp only [laws_FnPieces.j1] at H
   by_cases c112 : x173_108 = true
   ·subst c112
    rw [if_pos rfl] at H
    obtain rfl := Option.some.inj H
    go_wp2
    go_ret
    exact ⟨by first | rfl | (simp [errW_none, errW_some] <;> rfl) | (simp [*, errW_none, errW_some] <;> rfl), hb_ HB⟩
   ·replace c112 := Bool.eq_false_iff.mpr c112
    subst c112
    rw [if_neg (show ¬ (false = true) by decide)] at H
    have HC113 := Aside0.mk H
    clear H
    go_upto_if 174 with (fail)
    go_cut [] (fun wc => ∃ (kq : Nat), Aside0 (laws_FnPieces.j2 kq t555 t559 t562 t563 t552 t553 t554 = some r) ∧ Aside0 (kq ≤ kj108) ∧ Aside0 (Kd.R (Kd.int .i64) 3 wc w.heap.size (fun _ => True) (.slice Ao19 t555.length co19) t555) ∧ Aside0 (Kd.R k29 29 wc w.heap.size (fun k_ => some k_ ≠ (v564 : Value).ownBlock ∧ k_ ≠ gb558) v560 t559) ∧ Aside0 (Kd.R k29 29 wc w.heap.size (fun k_ => some k_ ≠ (v560 : Value).ownBlock ∧ k_ ≠ gb558) v564 t563) ∧ Aside0 (wc.heap[gb558]? = some (.cells #[.int .i64 t552, .int .i64 t553, .int .i64 t554] 29 (0, 0))) ∧ Aside0 (Below w.heap.size w wc))
    case first =>
     have H := HC113.out
     clear HC113
     by_cases c114 : t598 = true
     ·refine ?z11_
      let rec p11_ : type_of% ?z11_ := by(
      subst c114
      rw [if_pos rfl] at H
      replace H := Option.bind_eq_some_iff.mp H
      obtain ⟨⟨t608, t609⟩, A1150, H⟩ := H
      try dsimp only at H
      have A115 := Aside0.mk A1150
      clear A1150
      replace H := Option.bind_eq_some_iff.mp H
      obtain ⟨⟨t610, t611⟩, A1160, H⟩ := H
      try dsimp only at H
      have A116 := Aside0.mk A1160
      clear A1160
      by_cases c117 : t609 = true
      ·subst c117
       rw [if_pos rfl] at H
       by_cases c118 : t608 = t601
       ·rw [if_pos c118] at H
        have c118b0 : (t608 == t601) = true := beq_iff_eq.mpr c118
        have c118b1 : (t608 != t601) = false := bne_eq_false_iff_eq.mpr c118
        clear c118
        (first | rw [c118b0] | (simp only [i64_w, i32_w]; rw [c118b0]) | skip)
        by_cases c119 : t611 = true
        ·subst c119
         rw [if_pos rfl] at H
         by_cases c120 : t600 > 0
         ·rw [if_pos c120] at H
          have c120b0 : decide (0 < t600) = true := decide_eq_true c120
          clear c120
          by_cases c121 : 0 ≤ t593
          ·rw [if_pos c121] at H
           have c121b0 : decide (0 ≤ t593) = true := decide_eq_true c121
           clear c121
           by_cases c122 : t593 < (t587.length : Int)
           ·rw [if_pos c122] at H
            have c122b0 : decide (t593 < (t587.length : Int)) = true := decide_eq_true c122
            clear c122
            by_cases c123 : t610 = (rd t587 t593)
            ·refine ?z12_
             let rec p12_ : type_of% ?z12_ := by(
             rw [if_pos c123] at H
             have c123b0 : (t610 == (rd t587 t593)) = true := beq_iff_eq.mpr c123
             have c123b1 : (t610 != (rd t587 t593)) = false := bne_eq_false_iff_eq.mpr c123
             clear c123
             have H' := Aside0.mk H
             clear H
             have hnb124 := NB594_558.out
             have hnc124 := NB558_594.out
             have hnb125 := NB594_599.out
             have hnc125 := NB599_594.out
             have hnb126 := NB594_604.out
             have hnc126 := NB604_594.out
             have hcz127_0 : wc.cell? ⟨gb594, 0, none⟩ = some (.int .i64 t581) := (blk_cell BK594.out 0).trans rfl
             have hcz127_1 : wc.cell? ⟨gb594, 1, none⟩ = some (.int .i64 t582) := (blk_cell BK594.out 1).trans rfl
             have hcz127_2 : wc.cell? ⟨gb594, 2, none⟩ = some (.int .i64 t583) := (blk_cell BK594.out 2).trans rfl
             have hcz127_3 : wc.cell? ⟨gb594, 3, none⟩ = some (.slice Ao39 t584.length co39) := (blk_cell BK594.out 3).trans rfl
             have hcz127_4 : wc.cell? ⟨gb594, 4, none⟩ = some (.slice Ao40 t587.length co40) := (blk_cell BK594.out 4).trans rfl
             have hcz127_5 : wc.cell? ⟨gb594, 5, none⟩ = some (.slice Ao41 t590.length co41) := (blk_cell BK594.out 5).trans rfl
             have hfz127_0 := blk_frozen BK594.out 0
             have hfz127_1 := blk_frozen BK594.out 1
             have hfz127_2 := blk_frozen BK594.out 2
             have hfz127_3 := blk_frozen BK594.out 3
             have hfz127_4 := blk_frozen BK594.out 4
             have hfz127_5 := blk_frozen BK594.out 5
             go_wp2_with (first | ((with_reducible refine gate_callee (f := 49) rfl ?_); refine gl_ (some 178) Try.func49 #[.agg #[.int .i64 t581, .int .i64 t582, .int .i64 t583, .slice Ao39 t584.length co39, .slice Ao40 t587.length co40, .slice Ao41 t590.length co41], .int .i64 t593] rfl rfl rfl ?_; (with_reducible refine (impl_MetalOf.calls kj108 t581 t582 t583 _ _ t584 _ _ t587 _ _ t590 t593 t608 true _ ?side1 ?side2 ?side3 ?side4 ?side5 ?side6 A115.out).mono ?_); (case side1 => exact Kd.C_o HO_595003); (case side2 => exact (Kd.R_reads' HO_595003.out).2.1); (case side3 => exact Kd.C_o HO_595004); (case side4 => exact (Kd.R_reads' HO_595004.out).2.1); (case side5 => exact Kd.C_o HO_595005); (case side6 => exact (Kd.R_reads' HO_595005.out).2.1); rintro e w128 ⟨rfl, hb⟩; refine ⟨_, rfl, ?_⟩; replace HO_6 := Kd.R_b HO_6 hb; replace HO_7 := Kd.R_b HO_7 hb; replace HO_9 := Kd.R_b HO_9 hb; replace HO_595003 := Kd.R_b HO_595003 hb; replace HO_595004 := Kd.R_b HO_595004 hb; replace HO_595005 := Kd.R_b HO_595005 hb; replace BK558 := kb_ BK558 hb; replace BK594 := kb_ BK594 hb; replace BK599 := kb_ BK599 hb; replace BK604 := kb_ BK604 hb; replace HB := hbs_ HB hb; (try clear hb); (try clear hb2); (try clear hk); (try clear hi); have hnb129 := NB599_558.out; have hnc129 := NB558_599.out; have hnb130 := NB599_604.out; have hnc130 := NB604_599.out; obtain ⟨hcz131_0, hcz131_1, hcz131_2, hfz131_0, hfz131_1, hfz131_2⟩ := bx3 BK599) | ((with_reducible refine gate_callee (f := 41) rfl ?_); refine gl_ (some 183) Try.func41 #[.agg #[.int .i64 t595, .int .i64 t596, .int .i64 t597]] rfl rfl rfl ?_; (with_reducible refine (impl_RoundedGrade.calls t595 t596 t597 t610 true _ A116.out).mono ?_); rintro e w132 ⟨rfl, hb⟩; refine ⟨_, rfl, ?_⟩; replace HO_6 := Kd.R_b HO_6 hb; replace HO_7 := Kd.R_b HO_7 hb; replace HO_9 := Kd.R_b HO_9 hb; replace HO_595003 := Kd.R_b HO_595003 hb; replace HO_595004 := Kd.R_b HO_595004 hb; replace HO_595005 := Kd.R_b HO_595005 hb; replace BK558 := kb_ BK558 hb; replace BK594 := kb_ BK594 hb; replace BK599 := kb_ BK599 hb; replace BK604 := kb_ BK604 hb; replace HB := hbs_ HB hb; (try clear hb); (try clear hb2); (try clear hk); (try clear hi); have hnb133 := NB604_558.out; have hnc133 := NB558_604.out; obtain ⟨hcz134_0, hcz134_1, hcz134_2, hfz134_0, hfz134_1, hfz134_2⟩ := bx3 BK604; obtain ⟨hcz135_0, hcz135_1, hcz135_2, hcz135_3, hcz135_4, hcz135_5, hfz135_0, hfz135_1, hfz135_2, hfz135_3, hfz135_4, hfz135_5⟩ := bx6 BK594; have p612 : 0 ≤ (t593 : Int) := of_decide_eq_true (by first | (with_reducible assumption) | assumption); have q612 : t593 < (t587.length : Int) := of_decide_eq_true (by first | (with_reducible assumption) | assumption); obtain ⟨ad612, e612, hx612_0⟩ := Kd.at_int (Kd.R_reads' HO_595004.out).2.2 t593 p612 q612; cases e612; replace p612 := eq_true p612; replace q612 := eq_true q612))
             go_meet
             case rel => exact ⟨_, H', ⟨by have := HJ14.out; have := HJ108.out; first | omega | exact Nat.le_refl _⟩, ⟨Kd.R_pp (Kd.R_mono HO_6.out (fun _ hk => trivial))⟩, ⟨Kd.R_pp (Kd.R_mono HO_7.out (fun _ hk => ⟨hk.1, hk.2.1⟩))⟩, ⟨Kd.R_pp (Kd.R_mono HO_9.out (fun _ hk => ⟨hk.1, hk.2.1⟩))⟩, ⟨kp_ BK558⟩, ⟨hb_ HB⟩⟩
             )
             exact p12_
            ·refine ?z13_
             let rec p13_ : type_of% ?z13_ := by(
             rw [if_neg c123] at H
             have c123b0 : (t610 == (rd t587 t593)) = false := beq_eq_false_iff_ne.mpr c123
             have c123b1 : (t610 != (rd t587 t593)) = true := bne_iff_ne.mpr c123
             obtain rfl := Option.some.inj H
             have hnb136 := NB594_558.out
             have hnc136 := NB558_594.out
             have hnb137 := NB594_599.out
             have hnc137 := NB599_594.out
             have hnb138 := NB594_604.out
             have hnc138 := NB604_594.out
             have hcz139_0 : wc.cell? ⟨gb594, 0, none⟩ = some (.int .i64 t581) := (blk_cell BK594.out 0).trans rfl
             have hcz139_1 : wc.cell? ⟨gb594, 1, none⟩ = some (.int .i64 t582) := (blk_cell BK594.out 1).trans rfl
             have hcz139_2 : wc.cell? ⟨gb594, 2, none⟩ = some (.int .i64 t583) := (blk_cell BK594.out 2).trans rfl
             have hcz139_3 : wc.cell? ⟨gb594, 3, none⟩ = some (.slice Ao39 t584.length co39) := (blk_cell BK594.out 3).trans rfl
             have hcz139_4 : wc.cell? ⟨gb594, 4, none⟩ = some (.slice Ao40 t587.length co40) := (blk_cell BK594.out 4).trans rfl
             have hcz139_5 : wc.cell? ⟨gb594, 5, none⟩ = some (.slice Ao41 t590.length co41) := (blk_cell BK594.out 5).trans rfl
             have hfz139_0 := blk_frozen BK594.out 0
             have hfz139_1 := blk_frozen BK594.out 1
             have hfz139_2 := blk_frozen BK594.out 2
             have hfz139_3 := blk_frozen BK594.out 3
             have hfz139_4 := blk_frozen BK594.out 4
             have hfz139_5 := blk_frozen BK594.out 5
             go_wp2_with (first | ((with_reducible refine gate_callee (f := 49) rfl ?_); refine gl_ (some 178) Try.func49 #[.agg #[.int .i64 t581, .int .i64 t582, .int .i64 t583, .slice Ao39 t584.length co39, .slice Ao40 t587.length co40, .slice Ao41 t590.length co41], .int .i64 t593] rfl rfl rfl ?_; (with_reducible refine (impl_MetalOf.calls kj108 t581 t582 t583 _ _ t584 _ _ t587 _ _ t590 t593 t608 true _ ?side1 ?side2 ?side3 ?side4 ?side5 ?side6 A115.out).mono ?_); (case side1 => exact Kd.C_o HO_595003); (case side2 => exact (Kd.R_reads' HO_595003.out).2.1); (case side3 => exact Kd.C_o HO_595004); (case side4 => exact (Kd.R_reads' HO_595004.out).2.1); (case side5 => exact Kd.C_o HO_595005); (case side6 => exact (Kd.R_reads' HO_595005.out).2.1); rintro e w140 ⟨rfl, hb⟩; refine ⟨_, rfl, ?_⟩; replace HO_6 := Kd.R_b HO_6 hb; replace HO_7 := Kd.R_b HO_7 hb; replace HO_9 := Kd.R_b HO_9 hb; replace HO_595003 := Kd.R_b HO_595003 hb; replace HO_595004 := Kd.R_b HO_595004 hb; replace HO_595005 := Kd.R_b HO_595005 hb; replace BK558 := kb_ BK558 hb; replace BK594 := kb_ BK594 hb; replace BK599 := kb_ BK599 hb; replace BK604 := kb_ BK604 hb; replace HB := hbs_ HB hb; (try clear hb); (try clear hb2); (try clear hk); (try clear hi); have hnb141 := NB599_558.out; have hnc141 := NB558_599.out; have hnb142 := NB599_604.out; have hnc142 := NB604_599.out; obtain ⟨hcz143_0, hcz143_1, hcz143_2, hfz143_0, hfz143_1, hfz143_2⟩ := bx3 BK599) | ((with_reducible refine gate_callee (f := 41) rfl ?_); refine gl_ (some 183) Try.func41 #[.agg #[.int .i64 t595, .int .i64 t596, .int .i64 t597]] rfl rfl rfl ?_; (with_reducible refine (impl_RoundedGrade.calls t595 t596 t597 t610 true _ A116.out).mono ?_); rintro e w144 ⟨rfl, hb⟩; refine ⟨_, rfl, ?_⟩; replace HO_6 := Kd.R_b HO_6 hb; replace HO_7 := Kd.R_b HO_7 hb; replace HO_9 := Kd.R_b HO_9 hb; replace HO_595003 := Kd.R_b HO_595003 hb; replace HO_595004 := Kd.R_b HO_595004 hb; replace HO_595005 := Kd.R_b HO_595005 hb; replace BK558 := kb_ BK558 hb; replace BK594 := kb_ BK594 hb; replace BK599 := kb_ BK599 hb; replace BK604 := kb_ BK604 hb; replace HB := hbs_ HB hb; (try clear hb); (try clear hb2); (try clear hk); (try clear hi); have hnb145 := NB604_558.out; have hnc145 := NB558_604.out; obtain ⟨hcz146_0, hcz146_1, hcz146_2, hfz146_0, hfz146_1, hfz146_2⟩ := bx3 BK604; obtain ⟨hcz147_0, hcz147_1, hcz147_2, hcz147_3, hcz147_4, hcz147_5, hfz147_0, hfz147_1, hfz147_2, hfz147_3, hfz147_4, hfz147_5⟩ := bx6 BK594; have p612 : 0 ≤ (t593 : Int) := of_decide_eq_true (by first | (with_reducible assumption) | assumption); have q612 : t593 < (t587.length : Int) := of_decide_eq_true (by first | (with_reducible assumption) | assumption); obtain ⟨ad612, e612, hx612_0⟩ := Kd.at_int (Kd.R_reads' HO_595004.out).2.2 t593 p612 q612; cases e612; replace p612 := eq_true p612; replace q612 := eq_true q612))
             go_ret
             exact ⟨by first | rfl | (simp [errW_none, errW_some] <;> rfl) | (simp [*, errW_none, errW_some] <;> rfl), hb_ HB⟩
             )
             exact p13_
           ·rw [if_neg c122] at H
            exact absurd H (by simp)
          ·rw [if_neg c121] at H
           exact absurd H (by simp)
         ·refine ?z14_
          let rec p14_ : type_of% ?z14_ := by(
          rw [if_neg c120] at H
          have c120b0 : decide (0 < t600) = false := decide_eq_false c120
          clear c120
          have H' := Aside0.mk H
          clear H
          have hnb148 := NB594_558.out
          have hnc148 := NB558_594.out
          have hnb149 := NB594_599.out
          have hnc149 := NB599_594.out
          have hnb150 := NB594_604.out
          have hnc150 := NB604_594.out
          have hcz151_0 : wc.cell? ⟨gb594, 0, none⟩ = some (.int .i64 t581) := (blk_cell BK594.out 0).trans rfl
          have hcz151_1 : wc.cell? ⟨gb594, 1, none⟩ = some (.int .i64 t582) := (blk_cell BK594.out 1).trans rfl
          have hcz151_2 : wc.cell? ⟨gb594, 2, none⟩ = some (.int .i64 t583) := (blk_cell BK594.out 2).trans rfl
          have hcz151_3 : wc.cell? ⟨gb594, 3, none⟩ = some (.slice Ao39 t584.length co39) := (blk_cell BK594.out 3).trans rfl
          have hcz151_4 : wc.cell? ⟨gb594, 4, none⟩ = some (.slice Ao40 t587.length co40) := (blk_cell BK594.out 4).trans rfl
          have hcz151_5 : wc.cell? ⟨gb594, 5, none⟩ = some (.slice Ao41 t590.length co41) := (blk_cell BK594.out 5).trans rfl
          have hfz151_0 := blk_frozen BK594.out 0
          have hfz151_1 := blk_frozen BK594.out 1
          have hfz151_2 := blk_frozen BK594.out 2
          have hfz151_3 := blk_frozen BK594.out 3
          have hfz151_4 := blk_frozen BK594.out 4
          have hfz151_5 := blk_frozen BK594.out 5
          go_wp2_with (first | ((with_reducible refine gate_callee (f := 49) rfl ?_); refine gl_ (some 178) Try.func49 #[.agg #[.int .i64 t581, .int .i64 t582, .int .i64 t583, .slice Ao39 t584.length co39, .slice Ao40 t587.length co40, .slice Ao41 t590.length co41], .int .i64 t593] rfl rfl rfl ?_; (with_reducible refine (impl_MetalOf.calls kj108 t581 t582 t583 _ _ t584 _ _ t587 _ _ t590 t593 t608 true _ ?side1 ?side2 ?side3 ?side4 ?side5 ?side6 A115.out).mono ?_); (case side1 => exact Kd.C_o HO_595003); (case side2 => exact (Kd.R_reads' HO_595003.out).2.1); (case side3 => exact Kd.C_o HO_595004); (case side4 => exact (Kd.R_reads' HO_595004.out).2.1); (case side5 => exact Kd.C_o HO_595005); (case side6 => exact (Kd.R_reads' HO_595005.out).2.1); rintro e w152 ⟨rfl, hb⟩; refine ⟨_, rfl, ?_⟩; replace HO_6 := Kd.R_b HO_6 hb; replace HO_7 := Kd.R_b HO_7 hb; replace HO_9 := Kd.R_b HO_9 hb; replace HO_595003 := Kd.R_b HO_595003 hb; replace HO_595004 := Kd.R_b HO_595004 hb; replace HO_595005 := Kd.R_b HO_595005 hb; replace BK558 := kb_ BK558 hb; replace BK594 := kb_ BK594 hb; replace BK599 := kb_ BK599 hb; replace BK604 := kb_ BK604 hb; replace HB := hbs_ HB hb; (try clear hb); (try clear hb2); (try clear hk); (try clear hi); have hnb153 := NB599_558.out; have hnc153 := NB558_599.out; have hnb154 := NB599_604.out; have hnc154 := NB604_599.out; obtain ⟨hcz155_0, hcz155_1, hcz155_2, hfz155_0, hfz155_1, hfz155_2⟩ := bx3 BK599; try clear BK594; try clear GW594; try clear GE594; try clear NB594_558; try clear NB558_594; try clear NB594_599; try clear NB599_594; try clear NB594_604; try clear NB604_594) | ((with_reducible refine gate_callee (f := 41) rfl ?_); refine gl_ (some 183) Try.func41 #[.agg #[.int .i64 t595, .int .i64 t596, .int .i64 t597]] rfl rfl rfl ?_; (with_reducible refine (impl_RoundedGrade.calls t595 t596 t597 t610 true _ A116.out).mono ?_); rintro e w156 ⟨rfl, hb⟩; refine ⟨_, rfl, ?_⟩; replace HO_6 := Kd.R_b HO_6 hb; replace HO_7 := Kd.R_b HO_7 hb; replace HO_9 := Kd.R_b HO_9 hb; replace HO_595003 := Kd.R_b HO_595003 hb; replace HO_595004 := Kd.R_b HO_595004 hb; replace HO_595005 := Kd.R_b HO_595005 hb; replace BK558 := kb_ BK558 hb; replace BK599 := kb_ BK599 hb; replace BK604 := kb_ BK604 hb; replace HB := hbs_ HB hb; (try clear hb); (try clear hb2); (try clear hk); (try clear hi); have hnb157 := NB604_558.out; have hnc157 := NB558_604.out; obtain ⟨hcz158_0, hcz158_1, hcz158_2, hfz158_0, hfz158_1, hfz158_2⟩ := bx3 BK604))
          go_meet
          case rel => exact ⟨_, H', ⟨by have := HJ14.out; have := HJ108.out; first | omega | exact Nat.le_refl _⟩, ⟨Kd.R_pp (Kd.R_mono HO_6.out (fun _ hk => trivial))⟩, ⟨Kd.R_pp (Kd.R_mono HO_7.out (fun _ hk => ⟨hk.1, hk.2.1⟩))⟩, ⟨Kd.R_pp (Kd.R_mono HO_9.out (fun _ hk => ⟨hk.1, hk.2.1⟩))⟩, ⟨kp_ BK558⟩, ⟨hb_ HB⟩⟩
          )
          exact p14_
        ·refine ?z15_
         let rec p15_ : type_of% ?z15_ := by(
         replace c119 := Bool.eq_false_iff.mpr c119
         subst c119
         rw [if_neg (show ¬ (false = true) by decide)] at H
         obtain rfl := Option.some.inj H
         have hnb159 := NB594_558.out
         have hnc159 := NB558_594.out
         have hnb160 := NB594_599.out
         have hnc160 := NB599_594.out
         have hnb161 := NB594_604.out
         have hnc161 := NB604_594.out
         have hcz162_0 : wc.cell? ⟨gb594, 0, none⟩ = some (.int .i64 t581) := (blk_cell BK594.out 0).trans rfl
         have hcz162_1 : wc.cell? ⟨gb594, 1, none⟩ = some (.int .i64 t582) := (blk_cell BK594.out 1).trans rfl
         have hcz162_2 : wc.cell? ⟨gb594, 2, none⟩ = some (.int .i64 t583) := (blk_cell BK594.out 2).trans rfl
         have hcz162_3 : wc.cell? ⟨gb594, 3, none⟩ = some (.slice Ao39 t584.length co39) := (blk_cell BK594.out 3).trans rfl
         have hcz162_4 : wc.cell? ⟨gb594, 4, none⟩ = some (.slice Ao40 t587.length co40) := (blk_cell BK594.out 4).trans rfl
         have hcz162_5 : wc.cell? ⟨gb594, 5, none⟩ = some (.slice Ao41 t590.length co41) := (blk_cell BK594.out 5).trans rfl
         have hfz162_0 := blk_frozen BK594.out 0
         have hfz162_1 := blk_frozen BK594.out 1
         have hfz162_2 := blk_frozen BK594.out 2
         have hfz162_3 := blk_frozen BK594.out 3
         have hfz162_4 := blk_frozen BK594.out 4
         have hfz162_5 := blk_frozen BK594.out 5
         go_wp2_with (first | ((with_reducible refine gate_callee (f := 49) rfl ?_); refine gl_ (some 178) Try.func49 #[.agg #[.int .i64 t581, .int .i64 t582, .int .i64 t583, .slice Ao39 t584.length co39, .slice Ao40 t587.length co40, .slice Ao41 t590.length co41], .int .i64 t593] rfl rfl rfl ?_; (with_reducible refine (impl_MetalOf.calls kj108 t581 t582 t583 _ _ t584 _ _ t587 _ _ t590 t593 t608 true _ ?side1 ?side2 ?side3 ?side4 ?side5 ?side6 A115.out).mono ?_); (case side1 => exact Kd.C_o HO_595003); (case side2 => exact (Kd.R_reads' HO_595003.out).2.1); (case side3 => exact Kd.C_o HO_595004); (case side4 => exact (Kd.R_reads' HO_595004.out).2.1); (case side5 => exact Kd.C_o HO_595005); (case side6 => exact (Kd.R_reads' HO_595005.out).2.1); rintro e w163 ⟨rfl, hb⟩; refine ⟨_, rfl, ?_⟩; replace HO_6 := Kd.R_b HO_6 hb; replace HO_7 := Kd.R_b HO_7 hb; replace HO_9 := Kd.R_b HO_9 hb; replace HO_595003 := Kd.R_b HO_595003 hb; replace HO_595004 := Kd.R_b HO_595004 hb; replace HO_595005 := Kd.R_b HO_595005 hb; replace BK558 := kb_ BK558 hb; replace BK594 := kb_ BK594 hb; replace BK599 := kb_ BK599 hb; replace BK604 := kb_ BK604 hb; replace HB := hbs_ HB hb; (try clear hb); (try clear hb2); (try clear hk); (try clear hi); have hnb164 := NB599_558.out; have hnc164 := NB558_599.out; have hnb165 := NB599_604.out; have hnc165 := NB604_599.out; obtain ⟨hcz166_0, hcz166_1, hcz166_2, hfz166_0, hfz166_1, hfz166_2⟩ := bx3 BK599; try clear BK594; try clear GW594; try clear GE594; try clear NB594_558; try clear NB558_594; try clear NB594_599; try clear NB599_594; try clear NB594_604; try clear NB604_594) | ((with_reducible refine gate_callee (f := 41) rfl ?_); refine gl_ (some 183) Try.func41 #[.agg #[.int .i64 t595, .int .i64 t596, .int .i64 t597]] rfl rfl rfl ?_; (with_reducible refine (impl_RoundedGrade.calls t595 t596 t597 t610 false _ A116.out).mono ?_); rintro e w167 ⟨rfl, hb⟩; refine ⟨_, rfl, ?_⟩; replace HO_6 := Kd.R_b HO_6 hb; replace HO_7 := Kd.R_b HO_7 hb; replace HO_9 := Kd.R_b HO_9 hb; replace HO_595003 := Kd.R_b HO_595003 hb; replace HO_595004 := Kd.R_b HO_595004 hb; replace HO_595005 := Kd.R_b HO_595005 hb; replace BK558 := kb_ BK558 hb; replace BK599 := kb_ BK599 hb; replace BK604 := kb_ BK604 hb; replace HB := hbs_ HB hb; (try clear hb); (try clear hb2); (try clear hk); (try clear hi); have hnb168 := NB604_558.out; have hnc168 := NB558_604.out; obtain ⟨hcz169_0, hcz169_1, hcz169_2, hfz169_0, hfz169_1, hfz169_2⟩ := bx3 BK604))
         go_ret
         exact ⟨by first | rfl | (simp [errW_none, errW_some] <;> rfl) | (simp [*, errW_none, errW_some] <;> rfl), hb_ HB⟩
         )
         exact p15_
       ·refine ?z16_
        let rec p16_ : type_of% ?z16_ := by(
        rw [if_neg c118] at H
        have c118b0 : (t608 == t601) = false := beq_eq_false_iff_ne.mpr c118
        have c118b1 : (t608 != t601) = true := bne_iff_ne.mpr c118
        (first | rw [c118b0] | (simp only [i64_w, i32_w]; rw [c118b0]) | skip)
        obtain rfl := Option.some.inj H
        have hnb170 := NB594_558.out
        have hnc170 := NB558_594.out
        have hnb171 := NB594_599.out
        have hnc171 := NB599_594.out
        have hnb172 := NB594_604.out
        have hnc172 := NB604_594.out
        have hcz173_0 : wc.cell? ⟨gb594, 0, none⟩ = some (.int .i64 t581) := (blk_cell BK594.out 0).trans rfl
        have hcz173_1 : wc.cell? ⟨gb594, 1, none⟩ = some (.int .i64 t582) := (blk_cell BK594.out 1).trans rfl
        have hcz173_2 : wc.cell? ⟨gb594, 2, none⟩ = some (.int .i64 t583) := (blk_cell BK594.out 2).trans rfl
        have hcz173_3 : wc.cell? ⟨gb594, 3, none⟩ = some (.slice Ao39 t584.length co39) := (blk_cell BK594.out 3).trans rfl
        have hcz173_4 : wc.cell? ⟨gb594, 4, none⟩ = some (.slice Ao40 t587.length co40) := (blk_cell BK594.out 4).trans rfl
        have hcz173_5 : wc.cell? ⟨gb594, 5, none⟩ = some (.slice Ao41 t590.length co41) := (blk_cell BK594.out 5).trans rfl
        have hfz173_0 := blk_frozen BK594.out 0
        have hfz173_1 := blk_frozen BK594.out 1
        have hfz173_2 := blk_frozen BK594.out 2
        have hfz173_3 := blk_frozen BK594.out 3
        have hfz173_4 := blk_frozen BK594.out 4
        have hfz173_5 := blk_frozen BK594.out 5
        go_wp2_with (first | ((with_reducible refine gate_callee (f := 49) rfl ?_); refine gl_ (some 178) Try.func49 #[.agg #[.int .i64 t581, .int .i64 t582, .int .i64 t583, .slice Ao39 t584.length co39, .slice Ao40 t587.length co40, .slice Ao41 t590.length co41], .int .i64 t593] rfl rfl rfl ?_; (with_reducible refine (impl_MetalOf.calls kj108 t581 t582 t583 _ _ t584 _ _ t587 _ _ t590 t593 t608 true _ ?side1 ?side2 ?side3 ?side4 ?side5 ?side6 A115.out).mono ?_); (case side1 => exact Kd.C_o HO_595003); (case side2 => exact (Kd.R_reads' HO_595003.out).2.1); (case side3 => exact Kd.C_o HO_595004); (case side4 => exact (Kd.R_reads' HO_595004.out).2.1); (case side5 => exact Kd.C_o HO_595005); (case side6 => exact (Kd.R_reads' HO_595005.out).2.1); rintro e w174 ⟨rfl, hb⟩; refine ⟨_, rfl, ?_⟩; replace HO_6 := Kd.R_b HO_6 hb; replace HO_7 := Kd.R_b HO_7 hb; replace HO_9 := Kd.R_b HO_9 hb; replace HO_595003 := Kd.R_b HO_595003 hb; replace HO_595004 := Kd.R_b HO_595004 hb; replace HO_595005 := Kd.R_b HO_595005 hb; replace BK558 := kb_ BK558 hb; replace BK594 := kb_ BK594 hb; replace BK599 := kb_ BK599 hb; replace BK604 := kb_ BK604 hb; replace HB := hbs_ HB hb; (try clear hb); (try clear hb2); (try clear hk); (try clear hi); have hnb175 := NB599_558.out; have hnc175 := NB558_599.out; have hnb176 := NB599_604.out; have hnc176 := NB604_599.out; obtain ⟨hcz177_0, hcz177_1, hcz177_2, hfz177_0, hfz177_1, hfz177_2⟩ := bx3 BK599; try clear BK594; try clear GW594; try clear GE594; try clear NB594_558; try clear NB558_594; try clear NB594_599; try clear NB599_594; try clear NB594_604; try clear NB604_594) | ((with_reducible refine gate_callee (f := 41) rfl ?_); refine gl_ (some 183) Try.func41 #[.agg #[.int .i64 t595, .int .i64 t596, .int .i64 t597]] rfl rfl rfl ?_; (with_reducible refine (impl_RoundedGrade.calls t595 t596 t597 t610 t611 _ A116.out).mono ?_); rintro e w178 ⟨rfl, hb⟩; refine ⟨_, rfl, ?_⟩; replace HO_6 := Kd.R_b HO_6 hb; replace HO_7 := Kd.R_b HO_7 hb; replace HO_9 := Kd.R_b HO_9 hb; replace HO_595003 := Kd.R_b HO_595003 hb; replace HO_595004 := Kd.R_b HO_595004 hb; replace HO_595005 := Kd.R_b HO_595005 hb; replace BK558 := kb_ BK558 hb; replace BK599 := kb_ BK599 hb; replace BK604 := kb_ BK604 hb; replace HB := hbs_ HB hb; (try clear hb); (try clear hb2); (try clear hk); (try clear hi); have hnb179 := NB604_558.out; have hnc179 := NB558_604.out; obtain ⟨hcz180_0, hcz180_1, hcz180_2, hfz180_0, hfz180_1, hfz180_2⟩ := bx3 BK604))
        go_ret
        exact ⟨by first | rfl | (simp [errW_none, errW_some] <;> rfl) | (simp [*, errW_none, errW_some] <;> rfl), hb_ HB⟩
        )
        exact p16_
      ·replace c117 := Bool.eq_false_iff.mpr c117
       subst c117
       rw [if_neg (show ¬ (false = true) by decide)] at H
       obtain rfl := Option.some.inj H
       have hnb181 := NB594_558.out
       have hnc181 := NB558_594.out
       have hnb182 := NB594_599.out
       have hnc182 := NB599_594.out
       have hnb183 := NB594_604.out
       have hnc183 := NB604_594.out
       have hcz184_0 : wc.cell? ⟨gb594, 0, none⟩ = some (.int .i64 t581) := (blk_cell BK594.out 0).trans rfl
       have hcz184_1 : wc.cell? ⟨gb594, 1, none⟩ = some (.int .i64 t582) := (blk_cell BK594.out 1).trans rfl
       have hcz184_2 : wc.cell? ⟨gb594, 2, none⟩ = some (.int .i64 t583) := (blk_cell BK594.out 2).trans rfl
       have hcz184_3 : wc.cell? ⟨gb594, 3, none⟩ = some (.slice Ao39 t584.length co39) := (blk_cell BK594.out 3).trans rfl
       have hcz184_4 : wc.cell? ⟨gb594, 4, none⟩ = some (.slice Ao40 t587.length co40) := (blk_cell BK594.out 4).trans rfl
       have hcz184_5 : wc.cell? ⟨gb594, 5, none⟩ = some (.slice Ao41 t590.length co41) := (blk_cell BK594.out 5).trans rfl
       have hfz184_0 := blk_frozen BK594.out 0
       have hfz184_1 := blk_frozen BK594.out 1
       have hfz184_2 := blk_frozen BK594.out 2
       have hfz184_3 := blk_frozen BK594.out 3
       have hfz184_4 := blk_frozen BK594.out 4
       have hfz184_5 := blk_frozen BK594.out 5
       go_wp2_with (first | ((with_reducible refine gate_callee (f := 49) rfl ?_); refine gl_ (some 178) Try.func49 #[.agg #[.int .i64 t581, .int .i64 t582, .int .i64 t583, .slice Ao39 t584.length co39, .slice Ao40 t587.length co40, .slice Ao41 t590.length co41], .int .i64 t593] rfl rfl rfl ?_; (with_reducible refine (impl_MetalOf.calls kj108 t581 t582 t583 _ _ t584 _ _ t587 _ _ t590 t593 t608 false _ ?side1 ?side2 ?side3 ?side4 ?side5 ?side6 A115.out).mono ?_); (case side1 => exact Kd.C_o HO_595003); (case side2 => exact (Kd.R_reads' HO_595003.out).2.1); (case side3 => exact Kd.C_o HO_595004); (case side4 => exact (Kd.R_reads' HO_595004.out).2.1); (case side5 => exact Kd.C_o HO_595005); (case side6 => exact (Kd.R_reads' HO_595005.out).2.1); rintro e w185 ⟨rfl, hb⟩; refine ⟨_, rfl, ?_⟩; replace HO_6 := Kd.R_b HO_6 hb; replace HO_7 := Kd.R_b HO_7 hb; replace HO_9 := Kd.R_b HO_9 hb; replace HO_595003 := Kd.R_b HO_595003 hb; replace HO_595004 := Kd.R_b HO_595004 hb; replace HO_595005 := Kd.R_b HO_595005 hb; replace BK558 := kb_ BK558 hb; replace BK594 := kb_ BK594 hb; replace BK599 := kb_ BK599 hb; replace BK604 := kb_ BK604 hb; replace HB := hbs_ HB hb; (try clear hb); (try clear hb2); (try clear hk); (try clear hi); have hnb186 := NB599_558.out; have hnc186 := NB558_599.out; have hnb187 := NB599_604.out; have hnc187 := NB604_599.out; obtain ⟨hcz188_0, hcz188_1, hcz188_2, hfz188_0, hfz188_1, hfz188_2⟩ := bx3 BK599; try clear BK594; try clear GW594; try clear GE594; try clear NB594_558; try clear NB558_594; try clear NB594_599; try clear NB599_594; try clear NB594_604; try clear NB604_594) | ((with_reducible refine gate_callee (f := 41) rfl ?_); refine gl_ (some 183) Try.func41 #[.agg #[.int .i64 t595, .int .i64 t596, .int .i64 t597]] rfl rfl rfl ?_; (with_reducible refine (impl_RoundedGrade.calls t595 t596 t597 t610 t611 _ A116.out).mono ?_); rintro e w189 ⟨rfl, hb⟩; refine ⟨_, rfl, ?_⟩; replace HO_6 := Kd.R_b HO_6 hb; replace HO_7 := Kd.R_b HO_7 hb; replace HO_9 := Kd.R_b HO_9 hb; replace HO_595003 := Kd.R_b HO_595003 hb; replace HO_595004 := Kd.R_b HO_595004 hb; replace HO_595005 := Kd.R_b HO_595005 hb; replace BK558 := kb_ BK558 hb; replace BK599 := kb_ BK599 hb; replace BK604 := kb_ BK604 hb; replace HB := hbs_ HB hb; (try clear hb); (try clear hb2); (try clear hk); (try clear hi)))
       go_ret
       exact ⟨by first | rfl | (simp [errW_none, errW_some] <;> rfl) | (simp [*, errW_none, errW_some] <;> rfl), hb_ HB⟩
      )
      exact p11_
     ·replace c114 := Bool.eq_false_iff.mpr c114
      subst c114
      rw [if_neg (show ¬ (false = true) by decide)] at H
      have H' := Aside0.mk H
      clear H
      go_wp2
      go_meet
      case rel => exact ⟨_, H', ⟨by have := HJ14.out; have := HJ108.out; first | omega | exact Nat.le_refl _⟩, ⟨Kd.R_pp (Kd.R_mono HO_6.out (fun _ hk => trivial))⟩, ⟨Kd.R_pp (Kd.R_mono HO_7.out (fun _ hk => ⟨hk.1, hk.2.1⟩))⟩, ⟨Kd.R_pp (Kd.R_mono HO_9.out (fun _ hk => ⟨hk.1, hk.2.1⟩))⟩, ⟨kp_ BK558⟩, ⟨hb_ HB⟩⟩
    case rest =>
     clear HC113
     (try clear c1); (try clear p2); (try clear c4); (try clear c6); (try clear p6); (try clear q6); (try clear hx6); (try clear c10); (try clear c11); (try clear c12); (try clear c13); (try clear c14); (try clear c15); (try clear c16); (try clear c17); (try clear c18); (try clear c41); (try clear c46); (try clear c49); (try clear c60); (try clear p61); (try clear q61); (try clear hx61); (try clear p64); (try clear c108); (try clear c110); (try clear c111); (try clear c111b0); (try clear c112); (try clear c114); (try clear c117); (try clear c118); (try clear c118b0); (try clear c118b1); (try clear c119); (try clear c120); (try clear c120b0); (try clear c121); (try clear c121b0); (try clear c122); (try clear c122b0); (try clear c123); (try clear c123b0); (try clear c123b1); (try clear c124); (try clear c125); (try clear c126); (try clear c129); (try clear c130); (try clear c133); (try clear c136); (try clear c137); (try clear c138); (try clear c141); (try clear c142); (try clear c145); (try clear c148); (try clear c149); (try clear c150); (try clear c153); (try clear c154); (try clear c157); (try clear c159); (try clear c160); (try clear c161); (try clear c164); (try clear c165); (try clear c168); (try clear c170); (try clear c171); (try clear c172); (try clear c175); (try clear c176); (try clear c179); (try clear c181); (try clear c182); (try clear c183); (try clear c186); (try clear c187)
     obtain ⟨kq, HA, HJ112, HO_6, HO_7, HO_9, BK558, HB⟩ := hcut
     cases kq with
     | zero => exact absurd HA.out (by simp [laws_FnPieces.j2])
     | succ kj112 =>
      refine ?z17_
      let rec p17_ : type_of% ?z17_ := by(
      have H := HA.out
      clear HA
      simp only [laws_FnPieces.j2] at H
      by_cases c190 : t562 = true
      ·subst c190
       rw [if_pos rfl] at H
       have H' := Aside0.mk H
       clear H
       obtain ⟨Ao191, co191, eo191⟩ := Kd.R_slice HO_9.out
       subst eo191
       go_wp2
       go_loopg [32, 33, 216] kj112 (fun kq v32 v33 v216 w' => ∃ (x32_4 : Int) (x33_4 : Int) (x216_4 : Int), v32 = .int .i64 x32_4 ∧ v33 = .int .i64 x33_4 ∧ v216 = .int .i64 x216_4 ∧ Aside0 (laws_FnPieces.l0 kq t555 t559 t563 x32_4 x33_4 t563 (t563.length : Int) x216_4 t552 t553 t554 = some r) ∧ Aside0 (kq ≤ kj112) ∧ Aside0 (Kd.R (Kd.int .i64) 3 w' w.heap.size (fun _ => True) (.slice Ao19 t555.length co19) t555) ∧ Aside0 (Kd.R k29 29 w' w.heap.size (fun k_ => some k_ ≠ ((.slice Ao191 t563.length co191) : Value).ownBlock ∧ some k_ ≠ ((.slice Ao191 t563.length co191) : Value).ownBlock ∧ k_ ≠ gb558) v560 t559) ∧ Aside0 (Kd.R k29 29 w' w.heap.size (fun k_ => some k_ ≠ (v560 : Value).ownBlock ∧ k_ ≠ gb558) (.slice Ao191 t563.length co191) t563) ∧ Aside0 (Kd.R k29 29 w' w.heap.size (fun k_ => some k_ ≠ (v560 : Value).ownBlock ∧ k_ ≠ gb558) (.slice Ao191 t563.length co191) t563) ∧ Aside0 (w'.heap[gb558]? = some (.cells #[.int .i64 t552, .int .i64 t553, .int .i64 t554] 29 (0, 0))) ∧ Aside0 (Below w.heap.size w w'))
       case atStart => exact ⟨(0), (0), (0), (by first | rfl | (simp; done) | (simp [*]; done)), (by first | rfl | (simp; done) | (simp [*]; done)), (by first | rfl | (simp; done) | (simp [*]; done)), H', ⟨Nat.le_refl _⟩, ⟨Kd.R_p HO_6⟩, ⟨Kd.R_pp (Kd.R_mono HO_7.out (fun _ hk => ⟨hk.1, ⟨hk.1, hk.2⟩⟩))⟩, ⟨Kd.R_p HO_9⟩, ⟨Kd.R_p HO_9⟩, ⟨kp_ BK558⟩, ⟨hb_ HB⟩⟩
       case round =>
        clear H'
        (try clear c1); (try clear p2); (try clear c4); (try clear c6); (try clear p6); (try clear q6); (try clear hx6); (try clear c10); (try clear c11); (try clear c12); (try clear c13); (try clear c14); (try clear c15); (try clear c16); (try clear c17); (try clear c18); (try clear c19); (try clear c41); (try clear c46); (try clear c49); (try clear c60); (try clear p61); (try clear q61); (try clear hx61); (try clear p64); (try clear c108); (try clear c110); (try clear c111); (try clear c111b0); (try clear c112); (try clear c114); (try clear c117); (try clear c118); (try clear c118b0); (try clear c118b1); (try clear c119); (try clear c120); (try clear c120b0); (try clear c121); (try clear c121b0); (try clear c122); (try clear c122b0); (try clear c123); (try clear c123b0); (try clear c123b1); (try clear c124); (try clear c125); (try clear c126); (try clear c129); (try clear c130); (try clear c133); (try clear c136); (try clear c137); (try clear c138); (try clear c141); (try clear c142); (try clear c145); (try clear c148); (try clear c149); (try clear c150); (try clear c153); (try clear c154); (try clear c157); (try clear c159); (try clear c160); (try clear c161); (try clear c164); (try clear c165); (try clear c168); (try clear c170); (try clear c171); (try clear c172); (try clear c175); (try clear c176); (try clear c179); (try clear c181); (try clear c182); (try clear c183); (try clear c186); (try clear c187); (try clear c190)
        obtain ⟨x32_4, x33_4, x216_4, rfl, rfl, rfl, HA, HK4, HO_6, HO_7, HO_9, HO_214, BK558, HB⟩ := hrel
        cases gk with
        | zero => exact absurd HA.out (by simp [laws_FnPieces.l0])
        | succ k4 =>
         have H := HA.out
         clear HA
         simp only [laws_FnPieces.l0] at H
         by_cases c192 : x216_4 < (t563.length : Int)
         ·rw [if_pos c192] at H
          have c192b0 : decide (x216_4 < (t563.length : Int)) = true := decide_eq_true c192
          clear c192
          by_cases c193 : 0 ≤ x216_4
          ·rw [if_pos c193] at H
           have c193b0 : decide (0 ≤ x216_4) = true := decide_eq_true c193
           clear c193
           by_cases c194 : x216_4 < (t563.length : Int)
           ·refine ?z18_
            let rec p18_ : type_of% ?z18_ := by(
            rw [if_pos c194] at H
            have c194b0 : decide (x216_4 < (t563.length : Int)) = true := decide_eq_true c194
            clear c194
            replace H := Option.bind_eq_some_iff.mp H
            obtain ⟨t615, A1950, H⟩ := H
            try dsimp only at H
            have A195 := Aside0.mk A1950
            clear A1950
            by_cases c196 : t615 = true
            ·refine ?z19_
             let rec p19_ : type_of% ?z19_ := by(
             subst c196
             rw [if_pos rfl] at H
             have H' := Aside0.mk H
             clear H
             have p613 : 0 ≤ (x216_4 : Int) := of_decide_eq_true (by first | (with_reducible assumption) | assumption)
             have q613 : x216_4 < (t563.length : Int) := of_decide_eq_true (by first | (with_reducible assumption) | assumption)
             obtain ⟨ad613, e613, hx613_0, hx613_1, hx613_2⟩ := at_T29 (Kd.R_reads' HO_214.out).2.2 x216_4 p613 q613
             cases e613
             replace p613 := eq_true p613
             replace q613 := eq_true q613
             go_wp2_with (first | ((with_reducible refine gate_dst (N := 35) rfl ?_); (try (refine gate_guard (by rfl) ?_; dsimp only)); refine box_event ?hg (N := 35) ?hd (cs := #[.int .i64 0, .int .i64 0, .int .i64 0]) (t := 29) ?hr ?_; (case hd => rfl); (case hg => rfl); (case hr => first | (go_simp; done) | (go_simp; rfl)); intro gb614 hg w197 hbox hb; have BK614 := Aside0.mk (hbox); have GW614 := gs_ hg HB; have GE614 := gs_ hg HB; have NB558_614 := nl_ hg BK558; have NB614_558 := ng_ hg BK558; replace HO_6 := Kd.R_b HO_6 hb; replace HO_7 := Aside0.mk (Kd.R_below (Kd.R_elderB (Kd.R_p HO_7) gb614 (Nat.le_of_eq hg.symm)) hb); replace HO_9 := Aside0.mk (Kd.R_below (Kd.R_elderB (Kd.R_p HO_9) gb614 (Nat.le_of_eq hg.symm)) hb); replace HO_214 := Aside0.mk (Kd.R_below (Kd.R_elderB (Kd.R_p HO_214) gb614 (Nat.le_of_eq hg.symm)) hb); replace BK558 := kb_ BK558 hb; replace HB := hbs_ HB hb; clear hb hbox hg; have hnb198 := NB614_558.out; have hnc198 := NB558_614.out; obtain ⟨hcz199_0, hcz199_1, hcz199_2, hfz199_0, hfz199_1, hfz199_2⟩ := bx3 BK614) | ((with_reducible refine gate_callee (f := 47) rfl ?_); refine gl_ (some 221) Try.func47 #[.agg #[.int .i64 ((rd_T29 t563 x216_4).f0), .int .i64 ((rd_T29 t563 x216_4).f1), .int .i64 ((rd_T29 t563 x216_4).f2)]] rfl rfl rfl ?_; (with_reducible refine (impl_IsPiece.calls ((rd_T29 t563 x216_4).f0) ((rd_T29 t563 x216_4).f1) ((rd_T29 t563 x216_4).f2) true _ A195.out).mono ?_); rintro e w200 ⟨rfl, hb⟩; refine ⟨_, rfl, ?_⟩; replace HO_6 := Kd.R_sb HO_6 BK614 hb; replace HO_7 := Aside0.mk (Kd.R_below (Kd.R_pp ((Kd.R_mono (Kd.R_far (p := ⟨gb614, 2, none⟩) (Kd.R_far (p := ⟨gb614, 1, none⟩) (Kd.R_far (p := ⟨gb614, 0, none⟩) (Kd.R_mono HO_7.out (fun k_ hk => (⟨hk, hk.2⟩ : _ ∧ k_ ≠ gb614))) (fun _ hk => hk.2) (.int .i64 ((rd_T29 t563 x216_4).f0))) (fun _ hk => hk.2) (.int .i64 ((rd_T29 t563 x216_4).f1))) (fun _ hk => hk.2) (.int .i64 ((rd_T29 t563 x216_4).f2))) (fun _ h_ => h_.1)))) hb); replace HO_9 := Aside0.mk (Kd.R_below (Kd.R_pp ((Kd.R_mono (Kd.R_far (p := ⟨gb614, 2, none⟩) (Kd.R_far (p := ⟨gb614, 1, none⟩) (Kd.R_far (p := ⟨gb614, 0, none⟩) (Kd.R_mono HO_9.out (fun k_ hk => (⟨hk, hk.2⟩ : _ ∧ k_ ≠ gb614))) (fun _ hk => hk.2) (.int .i64 ((rd_T29 t563 x216_4).f0))) (fun _ hk => hk.2) (.int .i64 ((rd_T29 t563 x216_4).f1))) (fun _ hk => hk.2) (.int .i64 ((rd_T29 t563 x216_4).f2))) (fun _ h_ => h_.1)))) hb); replace HO_214 := Aside0.mk (Kd.R_below (Kd.R_pp ((Kd.R_mono (Kd.R_far (p := ⟨gb614, 2, none⟩) (Kd.R_far (p := ⟨gb614, 1, none⟩) (Kd.R_far (p := ⟨gb614, 0, none⟩) (Kd.R_mono HO_214.out (fun k_ hk => (⟨hk, hk.2⟩ : _ ∧ k_ ≠ gb614))) (fun _ hk => hk.2) (.int .i64 ((rd_T29 t563 x216_4).f0))) (fun _ hk => hk.2) (.int .i64 ((rd_T29 t563 x216_4).f1))) (fun _ hk => hk.2) (.int .i64 ((rd_T29 t563 x216_4).f2))) (fun _ h_ => h_.1)))) hb); replace BK558 := kfb_ BK558 NB558_614 hb; replace HB := hbs_ HB hb; replace BK614 := Aside0.mk (blk_below (g := gb614) (o := .cells #[.int .i64 ((rd_T29 t563 x216_4).f0), .int .i64 ((rd_T29 t563 x216_4).f1), .int .i64 ((rd_T29 t563 x216_4).f2)] 29 (0, 0)) (kpq_ (kputs BK614 [(0, _), (1, _), (2, _)])) hb); (try clear hb); (try clear hb2); (try clear hk); (try clear hi); obtain ⟨hcz201_0, hcz201_1, hcz201_2, hfz201_0, hfz201_1, hfz201_2⟩ := bx3 BK614))
             go_roundg k4
             case measure => have := HJ14.out; have := HJ108.out; have := HJ112.out; have := HK4.out; omega
             case rel => exact ⟨(wrap64 (x32_4 + ((rd_T29 t563 x216_4).f0))), (wrap64 (x33_4 + ((rd_T29 t563 x216_4).f1))), (wrap64 (x216_4 + 1)), (by first | rfl | (simp; done) | (simp [*]; done)), (by first | rfl | (simp; done) | (simp [*]; done)), (by first | rfl | (simp; done) | (simp [*]; done)), H', ⟨by have := HJ14.out; have := HJ108.out; have := HJ112.out; have := HK4.out; omega⟩, ⟨Kd.R_p HO_6⟩, ⟨Kd.R_pp (Kd.R_mono HO_7.out (fun _ hk => ⟨hk.1.1, ⟨hk.1.2.1, hk.1.2.2⟩⟩))⟩, ⟨Kd.R_pp (Kd.R_mono HO_9.out (fun _ hk => ⟨hk.1.1, hk.1.2⟩))⟩, ⟨Kd.R_pp (Kd.R_mono HO_214.out (fun _ hk => ⟨hk.1.1, hk.1.2⟩))⟩, ⟨kp_ BK558⟩, ⟨hb_ HB⟩⟩
             )
             exact p19_
            ·replace c196 := Bool.eq_false_iff.mpr c196
             subst c196
             rw [if_neg (show ¬ (false = true) by decide)] at H
             obtain rfl := Option.some.inj H
             have p613 : 0 ≤ (x216_4 : Int) := of_decide_eq_true (by first | (with_reducible assumption) | assumption)
             have q613 : x216_4 < (t563.length : Int) := of_decide_eq_true (by first | (with_reducible assumption) | assumption)
             obtain ⟨ad613, e613, hx613_0, hx613_1, hx613_2⟩ := at_T29 (Kd.R_reads' HO_214.out).2.2 x216_4 p613 q613
             cases e613
             replace p613 := eq_true p613
             replace q613 := eq_true q613
             go_wp2_with (first | ((with_reducible refine gate_dst (N := 35) rfl ?_); (try (refine gate_guard (by rfl) ?_; dsimp only)); refine box_event ?hg (N := 35) ?hd (cs := #[.int .i64 0, .int .i64 0, .int .i64 0]) (t := 29) ?hr ?_; (case hd => rfl); (case hg => rfl); (case hr => first | (go_simp; done) | (go_simp; rfl)); intro gb614 hg w202 hbox hb; have BK614 := Aside0.mk (hbox); have GW614 := gs_ hg HB; have GE614 := gs_ hg HB; have NB558_614 := nl_ hg BK558; have NB614_558 := ng_ hg BK558; replace HO_6 := Kd.R_b HO_6 hb; replace HO_7 := Aside0.mk (Kd.R_below (Kd.R_elderB (Kd.R_p HO_7) gb614 (Nat.le_of_eq hg.symm)) hb); replace HO_9 := Aside0.mk (Kd.R_below (Kd.R_elderB (Kd.R_p HO_9) gb614 (Nat.le_of_eq hg.symm)) hb); replace HO_214 := Aside0.mk (Kd.R_below (Kd.R_elderB (Kd.R_p HO_214) gb614 (Nat.le_of_eq hg.symm)) hb); replace BK558 := kb_ BK558 hb; replace HB := hbs_ HB hb; clear hb hbox hg; have hnb203 := NB614_558.out; have hnc203 := NB558_614.out; obtain ⟨hcz204_0, hcz204_1, hcz204_2, hfz204_0, hfz204_1, hfz204_2⟩ := bx3 BK614) | ((with_reducible refine gate_callee (f := 47) rfl ?_); refine gl_ (some 221) Try.func47 #[.agg #[.int .i64 ((rd_T29 t563 x216_4).f0), .int .i64 ((rd_T29 t563 x216_4).f1), .int .i64 ((rd_T29 t563 x216_4).f2)]] rfl rfl rfl ?_; (with_reducible refine (impl_IsPiece.calls ((rd_T29 t563 x216_4).f0) ((rd_T29 t563 x216_4).f1) ((rd_T29 t563 x216_4).f2) false _ A195.out).mono ?_); rintro e w205 ⟨rfl, hb⟩; refine ⟨_, rfl, ?_⟩; replace HO_6 := Kd.R_sb HO_6 BK614 hb; replace HO_7 := Aside0.mk (Kd.R_below (Kd.R_pp ((Kd.R_mono (Kd.R_far (p := ⟨gb614, 2, none⟩) (Kd.R_far (p := ⟨gb614, 1, none⟩) (Kd.R_far (p := ⟨gb614, 0, none⟩) (Kd.R_mono HO_7.out (fun k_ hk => (⟨hk, hk.2⟩ : _ ∧ k_ ≠ gb614))) (fun _ hk => hk.2) (.int .i64 ((rd_T29 t563 x216_4).f0))) (fun _ hk => hk.2) (.int .i64 ((rd_T29 t563 x216_4).f1))) (fun _ hk => hk.2) (.int .i64 ((rd_T29 t563 x216_4).f2))) (fun _ h_ => h_.1)))) hb); replace HO_9 := Aside0.mk (Kd.R_below (Kd.R_pp ((Kd.R_mono (Kd.R_far (p := ⟨gb614, 2, none⟩) (Kd.R_far (p := ⟨gb614, 1, none⟩) (Kd.R_far (p := ⟨gb614, 0, none⟩) (Kd.R_mono HO_9.out (fun k_ hk => (⟨hk, hk.2⟩ : _ ∧ k_ ≠ gb614))) (fun _ hk => hk.2) (.int .i64 ((rd_T29 t563 x216_4).f0))) (fun _ hk => hk.2) (.int .i64 ((rd_T29 t563 x216_4).f1))) (fun _ hk => hk.2) (.int .i64 ((rd_T29 t563 x216_4).f2))) (fun _ h_ => h_.1)))) hb); replace HO_214 := Aside0.mk (Kd.R_below (Kd.R_pp ((Kd.R_mono (Kd.R_far (p := ⟨gb614, 2, none⟩) (Kd.R_far (p := ⟨gb614, 1, none⟩) (Kd.R_far (p := ⟨gb614, 0, none⟩) (Kd.R_mono HO_214.out (fun k_ hk => (⟨hk, hk.2⟩ : _ ∧ k_ ≠ gb614))) (fun _ hk => hk.2) (.int .i64 ((rd_T29 t563 x216_4).f0))) (fun _ hk => hk.2) (.int .i64 ((rd_T29 t563 x216_4).f1))) (fun _ hk => hk.2) (.int .i64 ((rd_T29 t563 x216_4).f2))) (fun _ h_ => h_.1)))) hb); replace BK558 := kfb_ BK558 NB558_614 hb; replace HB := hbs_ HB hb; replace BK614 := Aside0.mk (blk_below (g := gb614) (o := .cells #[.int .i64 ((rd_T29 t563 x216_4).f0), .int .i64 ((rd_T29 t563 x216_4).f1), .int .i64 ((rd_T29 t563 x216_4).f2)] 29 (0, 0)) (kpq_ (kputs BK614 [(0, _), (1, _), (2, _)])) hb); (try clear hb); (try clear hb2); (try clear hk); (try clear hi)))
             go_ret
             exact ⟨by first | rfl | (simp [errW_none, errW_some] <;> rfl) | (simp [*, errW_none, errW_some] <;> rfl), hb_ HB⟩
            )
            exact p18_
           ·rw [if_neg c194] at H
            exact absurd H (by simp)
          ·rw [if_neg c193] at H
           exact absurd H (by simp)
         ·refine ?z20_
          let rec p20_ : type_of% ?z20_ := by(
          rw [if_neg c192] at H
          have c192b0 : decide (x216_4 < (t563.length : Int)) = false := decide_eq_false c192
          clear c192
          replace H := Option.bind_eq_some_iff.mp H
          obtain ⟨⟨t616, t617, t618, t619⟩, A2060, H⟩ := H
          try dsimp only at H
          have A206 := Aside0.mk A2060
          clear A2060
          by_cases c207 : x32_4 = t552
          ·rw [if_pos c207] at H
           have c207b0 : (x32_4 == t552) = true := beq_iff_eq.mpr c207
           have c207b1 : (x32_4 != t552) = false := bne_eq_false_iff_eq.mpr c207
           clear c207
           by_cases c208 : x33_4 = t553
           ·refine ?z21_
            let rec p21_ : type_of% ?z21_ := by(
            rw [if_pos c208] at H
            have c208b0 : (x33_4 == t553) = true := beq_iff_eq.mpr c208
            have c208b1 : (x33_4 != t553) = false := bne_eq_false_iff_eq.mpr c208
            clear c208
            by_cases c209 : t619 = true
            ·subst c209
             rw [if_pos rfl] at H
             by_cases c210 : (t616 == t552 && (t617 == t553 && (t618 == t554))) = true
             ·rw [if_pos c210] at H
              have c210b0 : (t616 == t552 && (t617 == t553 && (t618 == t554))) = true := c210
              (try (have c210b1 : decide (t616 = t552 && (t617 == t553 && (t618 == t554))) = true := by simpa using c210))
              (try (have c210b2 : (t616 == t552 && (t617 == t553 && (t618 == t554))) = true := by simpa using c210))
              clear c210
              obtain rfl := Option.some.inj H
              obtain ⟨Ao211, co211, eo211⟩ := Kd.R_slice HO_7.out
              subst eo211
              go_wp2_with (first | ((with_reducible refine gate_callee (f := 20) rfl ?_); refine gl_ (some 234) Try.func20 #[.slice Ao211 t559.length co211] rfl rfl rfl ?_; (with_reducible refine (impl_JoinPieces.calls k4 _ _ t559 t616 t617 t618 true _ ?side1 ?side2 A206.out).mono ?_); (case side1 => exact Kd.C_o HO_7); (case side2 => exact (Kd.R_reads' HO_7.out).2.1); rintro e w212 ⟨rfl, hb⟩; refine ⟨_, rfl, ?_⟩; replace HO_6 := Kd.R_b HO_6 hb; replace HO_7 := Kd.R_b HO_7 hb; replace HO_9 := Kd.R_b HO_9 hb; replace HO_214 := Kd.R_b HO_214 hb; replace BK558 := kb_ BK558 hb; replace HB := hbs_ HB hb; (try clear hb); (try clear hb2); (try clear hk); (try clear hi)) | ((with_reducible refine gate_dst (N := 36) rfl ?_); (try (refine gate_guard (by rfl) ?_; dsimp only)); refine box_event ?hg (N := 36) ?hd (cs := #[.int .i64 0, .int .i64 0, .int .i64 0]) (t := 29) ?hr ?_; (case hd => rfl); (case hg => rfl); (case hr => first | (go_simp; done) | (go_simp; rfl)); intro gb620 hg w213 hbox hb; have BK620 := Aside0.mk (hbox); have GW620 := gs_ hg HB; have GE620 := gs_ hg HB; have NB558_620 := nl_ hg BK558; have NB620_558 := ng_ hg BK558; replace HO_6 := Kd.R_b HO_6 hb; replace HO_7 := Aside0.mk (Kd.R_below (Kd.R_elderB (Kd.R_p HO_7) gb620 (Nat.le_of_eq hg.symm)) hb); replace HO_9 := Aside0.mk (Kd.R_below (Kd.R_elderB (Kd.R_p HO_9) gb620 (Nat.le_of_eq hg.symm)) hb); replace HO_214 := Aside0.mk (Kd.R_below (Kd.R_elderB (Kd.R_p HO_214) gb620 (Nat.le_of_eq hg.symm)) hb); replace BK558 := kb_ BK558 hb; replace HB := hbs_ HB hb; clear hb hbox hg; have hnb214 := NB620_558.out; have hnc214 := NB558_620.out; obtain ⟨hcz215_0, hcz215_1, hcz215_2, hfz215_0, hfz215_1, hfz215_2⟩ := bx3 BK620; obtain ⟨hcz216_0, hcz216_1, hcz216_2, hfz216_0, hfz216_1, hfz216_2⟩ := bx3 BK558))
              go_ret
              exact ⟨by first | rfl | (simp [errW_none, errW_some] <;> rfl) | (simp [*, errW_none, errW_some] <;> rfl), hb_ HB⟩
             ·refine ?z22_
              let rec p22_ : type_of% ?z22_ := by(
              rw [if_neg c210] at H
              have c210b0 : (t616 == t552 && (t617 == t553 && (t618 == t554))) = false := by simpa using c210
              (try (have c210b1 : decide (t616 = t552 && (t617 == t553 && (t618 == t554))) = false := by simpa using c210))
              (try (have c210b2 : (t616 == t552 && (t617 == t553 && (t618 == t554))) = false := by simpa using c210))
              (try (have c210b3 : ¬ (t616 = t552 && (t617 == t553 && (t618 == t554))) := by simpa using c210))
              clear c210
              by_cases c217 : t552 = 0
              ·rw [if_pos c217] at H
               have c217b0 : (t552 == 0) = true := beq_iff_eq.mpr c217
               have c217b1 : (t552 != 0) = false := bne_eq_false_iff_eq.mpr c217
               clear c217
               obtain rfl := Option.some.inj H
               obtain ⟨Ao218, co218, eo218⟩ := Kd.R_slice HO_7.out
               subst eo218
               go_wp2_with (first | ((with_reducible refine gate_callee (f := 20) rfl ?_); refine gl_ (some 234) Try.func20 #[.slice Ao218 t559.length co218] rfl rfl rfl ?_; (with_reducible refine (impl_JoinPieces.calls k4 _ _ t559 t616 t617 t618 true _ ?side1 ?side2 A206.out).mono ?_); (case side1 => exact Kd.C_o HO_7); (case side2 => exact (Kd.R_reads' HO_7.out).2.1); rintro e w219 ⟨rfl, hb⟩; refine ⟨_, rfl, ?_⟩; replace HO_6 := Kd.R_b HO_6 hb; replace HO_7 := Kd.R_b HO_7 hb; replace HO_9 := Kd.R_b HO_9 hb; replace HO_214 := Kd.R_b HO_214 hb; replace BK558 := kb_ BK558 hb; replace HB := hbs_ HB hb; (try clear hb); (try clear hb2); (try clear hk); (try clear hi)) | ((with_reducible refine gate_dst (N := 36) rfl ?_); (try (refine gate_guard (by rfl) ?_; dsimp only)); refine box_event ?hg (N := 36) ?hd (cs := #[.int .i64 0, .int .i64 0, .int .i64 0]) (t := 29) ?hr ?_; (case hd => rfl); (case hg => rfl); (case hr => first | (go_simp; done) | (go_simp; rfl)); intro gb620 hg w220 hbox hb; have BK620 := Aside0.mk (hbox); have GW620 := gs_ hg HB; have GE620 := gs_ hg HB; have NB558_620 := nl_ hg BK558; have NB620_558 := ng_ hg BK558; replace HO_6 := Kd.R_b HO_6 hb; replace HO_7 := Aside0.mk (Kd.R_below (Kd.R_elderB (Kd.R_p HO_7) gb620 (Nat.le_of_eq hg.symm)) hb); replace HO_9 := Aside0.mk (Kd.R_below (Kd.R_elderB (Kd.R_p HO_9) gb620 (Nat.le_of_eq hg.symm)) hb); replace HO_214 := Aside0.mk (Kd.R_below (Kd.R_elderB (Kd.R_p HO_214) gb620 (Nat.le_of_eq hg.symm)) hb); replace BK558 := kb_ BK558 hb; replace HB := hbs_ HB hb; clear hb hbox hg; have hnb221 := NB620_558.out; have hnc221 := NB558_620.out; obtain ⟨hcz222_0, hcz222_1, hcz222_2, hfz222_0, hfz222_1, hfz222_2⟩ := bx3 BK620; obtain ⟨hcz223_0, hcz223_1, hcz223_2, hfz223_0, hfz223_1, hfz223_2⟩ := bx3 BK558))
               go_ret
               exact ⟨by first | rfl | (simp [errW_none, errW_some] <;> rfl) | (simp [*, errW_none, errW_some] <;> rfl), hb_ HB⟩
              ·rw [if_neg c217] at H
               have c217b0 : (t552 == 0) = false := beq_eq_false_iff_ne.mpr c217
               have c217b1 : (t552 != 0) = true := bne_iff_ne.mpr c217
               obtain rfl := Option.some.inj H
               obtain ⟨Ao224, co224, eo224⟩ := Kd.R_slice HO_7.out
               subst eo224
               go_wp2_with (first | ((with_reducible refine gate_callee (f := 20) rfl ?_); refine gl_ (some 234) Try.func20 #[.slice Ao224 t559.length co224] rfl rfl rfl ?_; (with_reducible refine (impl_JoinPieces.calls k4 _ _ t559 t616 t617 t618 true _ ?side1 ?side2 A206.out).mono ?_); (case side1 => exact Kd.C_o HO_7); (case side2 => exact (Kd.R_reads' HO_7.out).2.1); rintro e w225 ⟨rfl, hb⟩; refine ⟨_, rfl, ?_⟩; replace HO_6 := Kd.R_b HO_6 hb; replace HO_7 := Kd.R_b HO_7 hb; replace HO_9 := Kd.R_b HO_9 hb; replace HO_214 := Kd.R_b HO_214 hb; replace BK558 := kb_ BK558 hb; replace HB := hbs_ HB hb; (try clear hb); (try clear hb2); (try clear hk); (try clear hi)) | ((with_reducible refine gate_dst (N := 36) rfl ?_); (try (refine gate_guard (by rfl) ?_; dsimp only)); refine box_event ?hg (N := 36) ?hd (cs := #[.int .i64 0, .int .i64 0, .int .i64 0]) (t := 29) ?hr ?_; (case hd => rfl); (case hg => rfl); (case hr => first | (go_simp; done) | (go_simp; rfl)); intro gb620 hg w226 hbox hb; have BK620 := Aside0.mk (hbox); have GW620 := gs_ hg HB; have GE620 := gs_ hg HB; have NB558_620 := nl_ hg BK558; have NB620_558 := ng_ hg BK558; replace HO_6 := Kd.R_b HO_6 hb; replace HO_7 := Aside0.mk (Kd.R_below (Kd.R_elderB (Kd.R_p HO_7) gb620 (Nat.le_of_eq hg.symm)) hb); replace HO_9 := Aside0.mk (Kd.R_below (Kd.R_elderB (Kd.R_p HO_9) gb620 (Nat.le_of_eq hg.symm)) hb); replace HO_214 := Aside0.mk (Kd.R_below (Kd.R_elderB (Kd.R_p HO_214) gb620 (Nat.le_of_eq hg.symm)) hb); replace BK558 := kb_ BK558 hb; replace HB := hbs_ HB hb; clear hb hbox hg; have hnb227 := NB620_558.out; have hnc227 := NB558_620.out; obtain ⟨hcz228_0, hcz228_1, hcz228_2, hfz228_0, hfz228_1, hfz228_2⟩ := bx3 BK620; obtain ⟨hcz229_0, hcz229_1, hcz229_2, hfz229_0, hfz229_1, hfz229_2⟩ := bx3 BK558))
               go_ret
               exact ⟨by first | rfl | (simp [errW_none, errW_some] <;> rfl) | (simp [*, errW_none, errW_some] <;> rfl), hb_ HB⟩
              )
              exact p22_
            ·replace c209 := Bool.eq_false_iff.mpr c209
             subst c209
             rw [if_neg (show ¬ (false = true) by decide)] at H
             obtain rfl := Option.some.inj H
             obtain ⟨Ao230, co230, eo230⟩ := Kd.R_slice HO_7.out
             subst eo230
             go_wp2_with (first | ((with_reducible refine gate_callee (f := 20) rfl ?_); refine gl_ (some 234) Try.func20 #[.slice Ao230 t559.length co230] rfl rfl rfl ?_; (with_reducible refine (impl_JoinPieces.calls k4 _ _ t559 t616 t617 t618 false _ ?side1 ?side2 A206.out).mono ?_); (case side1 => exact Kd.C_o HO_7); (case side2 => exact (Kd.R_reads' HO_7.out).2.1); rintro e w231 ⟨rfl, hb⟩; refine ⟨_, rfl, ?_⟩; replace HO_6 := Kd.R_b HO_6 hb; replace HO_7 := Kd.R_b HO_7 hb; replace HO_9 := Kd.R_b HO_9 hb; replace HO_214 := Kd.R_b HO_214 hb; replace BK558 := kb_ BK558 hb; replace HB := hbs_ HB hb; (try clear hb); (try clear hb2); (try clear hk); (try clear hi)) | ((with_reducible refine gate_dst (N := 36) rfl ?_); (try (refine gate_guard (by rfl) ?_; dsimp only)); refine box_event ?hg (N := 36) ?hd (cs := #[.int .i64 0, .int .i64 0, .int .i64 0]) (t := 29) ?hr ?_; (case hd => rfl); (case hg => rfl); (case hr => first | (go_simp; done) | (go_simp; rfl)); intro gb620 hg w232 hbox hb; have BK620 := Aside0.mk (hbox); have GW620 := gs_ hg HB; have GE620 := gs_ hg HB; have NB558_620 := nl_ hg BK558; have NB620_558 := ng_ hg BK558; replace HO_6 := Kd.R_b HO_6 hb; replace HO_7 := Aside0.mk (Kd.R_below (Kd.R_elderB (Kd.R_p HO_7) gb620 (Nat.le_of_eq hg.symm)) hb); replace HO_9 := Aside0.mk (Kd.R_below (Kd.R_elderB (Kd.R_p HO_9) gb620 (Nat.le_of_eq hg.symm)) hb); replace HO_214 := Aside0.mk (Kd.R_below (Kd.R_elderB (Kd.R_p HO_214) gb620 (Nat.le_of_eq hg.symm)) hb); replace BK558 := kb_ BK558 hb; replace HB := hbs_ HB hb; clear hb hbox hg; have hnb233 := NB620_558.out; have hnc233 := NB558_620.out; obtain ⟨hcz234_0, hcz234_1, hcz234_2, hfz234_0, hfz234_1, hfz234_2⟩ := bx3 BK620; obtain ⟨hcz235_0, hcz235_1, hcz235_2, hfz235_0, hfz235_1, hfz235_2⟩ := bx3 BK558))
             go_ret
             exact ⟨by first | rfl | (simp [errW_none, errW_some] <;> rfl) | (simp [*, errW_none, errW_some] <;> rfl), hb_ HB⟩
            )
            exact p21_
           ·rw [if_neg c208] at H
            have c208b0 : (x33_4 == t553) = false := beq_eq_false_iff_ne.mpr c208
            have c208b1 : (x33_4 != t553) = true := bne_iff_ne.mpr c208
            obtain rfl := Option.some.inj H
            obtain ⟨Ao236, co236, eo236⟩ := Kd.R_slice HO_7.out
            subst eo236
            go_wp2_with (first | ((with_reducible refine gate_callee (f := 20) rfl ?_); refine gl_ (some 234) Try.func20 #[.slice Ao236 t559.length co236] rfl rfl rfl ?_; (with_reducible refine (impl_JoinPieces.calls k4 _ _ t559 t616 t617 t618 t619 _ ?side1 ?side2 A206.out).mono ?_); (case side1 => exact Kd.C_o HO_7); (case side2 => exact (Kd.R_reads' HO_7.out).2.1); rintro e w237 ⟨rfl, hb⟩; refine ⟨_, rfl, ?_⟩; replace HO_6 := Kd.R_b HO_6 hb; replace HO_7 := Kd.R_b HO_7 hb; replace HO_9 := Kd.R_b HO_9 hb; replace HO_214 := Kd.R_b HO_214 hb; replace BK558 := kb_ BK558 hb; replace HB := hbs_ HB hb; (try clear hb); (try clear hb2); (try clear hk); (try clear hi)) | ((with_reducible refine gate_dst (N := 36) rfl ?_); (try (refine gate_guard (by rfl) ?_; dsimp only)); refine box_event ?hg (N := 36) ?hd (cs := #[.int .i64 0, .int .i64 0, .int .i64 0]) (t := 29) ?hr ?_; (case hd => rfl); (case hg => rfl); (case hr => first | (go_simp; done) | (go_simp; rfl)); intro gb620 hg w238 hbox hb; have BK620 := Aside0.mk (hbox); have GW620 := gs_ hg HB; have GE620 := gs_ hg HB; have NB558_620 := nl_ hg BK558; have NB620_558 := ng_ hg BK558; replace HO_6 := Kd.R_b HO_6 hb; replace HO_7 := Aside0.mk (Kd.R_below (Kd.R_elderB (Kd.R_p HO_7) gb620 (Nat.le_of_eq hg.symm)) hb); replace HO_9 := Aside0.mk (Kd.R_below (Kd.R_elderB (Kd.R_p HO_9) gb620 (Nat.le_of_eq hg.symm)) hb); replace HO_214 := Aside0.mk (Kd.R_below (Kd.R_elderB (Kd.R_p HO_214) gb620 (Nat.le_of_eq hg.symm)) hb); replace BK558 := kb_ BK558 hb; replace HB := hbs_ HB hb; clear hb hbox hg; have hnb239 := NB620_558.out; have hnc239 := NB558_620.out; obtain ⟨hcz240_0, hcz240_1, hcz240_2, hfz240_0, hfz240_1, hfz240_2⟩ := bx3 BK620; obtain ⟨hcz241_0, hcz241_1, hcz241_2, hfz241_0, hfz241_1, hfz241_2⟩ := bx3 BK558))
            go_ret
            exact ⟨by first | rfl | (simp [errW_none, errW_some] <;> rfl) | (simp [*, errW_none, errW_some] <;> rfl), hb_ HB⟩
          ·rw [if_neg c207] at H
           have c207b0 : (x32_4 == t552) = false := beq_eq_false_iff_ne.mpr c207
           have c207b1 : (x32_4 != t552) = true := bne_iff_ne.mpr c207
           obtain rfl := Option.some.inj H
           obtain ⟨Ao242, co242, eo242⟩ := Kd.R_slice HO_7.out
           subst eo242
           go_wp2_with (first | ((with_reducible refine gate_callee (f := 20) rfl ?_); refine gl_ (some 234) Try.func20 #[.slice Ao242 t559.length co242] rfl rfl rfl ?_; (with_reducible refine (impl_JoinPieces.calls k4 _ _ t559 t616 t617 t618 t619 _ ?side1 ?side2 A206.out).mono ?_); (case side1 => exact Kd.C_o HO_7); (case side2 => exact (Kd.R_reads' HO_7.out).2.1); rintro e w243 ⟨rfl, hb⟩; refine ⟨_, rfl, ?_⟩; replace HO_6 := Kd.R_b HO_6 hb; replace HO_7 := Kd.R_b HO_7 hb; replace HO_9 := Kd.R_b HO_9 hb; replace HO_214 := Kd.R_b HO_214 hb; replace BK558 := kb_ BK558 hb; replace HB := hbs_ HB hb; (try clear hb); (try clear hb2); (try clear hk); (try clear hi)) | ((with_reducible refine gate_dst (N := 36) rfl ?_); (try (refine gate_guard (by rfl) ?_; dsimp only)); refine box_event ?hg (N := 36) ?hd (cs := #[.int .i64 0, .int .i64 0, .int .i64 0]) (t := 29) ?hr ?_; (case hd => rfl); (case hg => rfl); (case hr => first | (go_simp; done) | (go_simp; rfl)); intro gb620 hg w244 hbox hb; have BK620 := Aside0.mk (hbox); have GW620 := gs_ hg HB; have GE620 := gs_ hg HB; have NB558_620 := nl_ hg BK558; have NB620_558 := ng_ hg BK558; replace HO_6 := Kd.R_b HO_6 hb; replace HO_7 := Aside0.mk (Kd.R_below (Kd.R_elderB (Kd.R_p HO_7) gb620 (Nat.le_of_eq hg.symm)) hb); replace HO_9 := Aside0.mk (Kd.R_below (Kd.R_elderB (Kd.R_p HO_9) gb620 (Nat.le_of_eq hg.symm)) hb); replace HO_214 := Aside0.mk (Kd.R_below (Kd.R_elderB (Kd.R_p HO_214) gb620 (Nat.le_of_eq hg.symm)) hb); replace BK558 := kb_ BK558 hb; replace HB := hbs_ HB hb; clear hb hbox hg; have hnb245 := NB620_558.out; have hnc245 := NB558_620.out; obtain ⟨hcz246_0, hcz246_1, hcz246_2, hfz246_0, hfz246_1, hfz246_2⟩ := bx3 BK620; obtain ⟨hcz247_0, hcz247_1, hcz247_2, hfz247_0, hfz247_1, hfz247_2⟩ := bx3 BK558))
           go_ret
           exact ⟨by first | rfl | (simp [errW_none, errW_some] <;> rfl) | (simp [*, errW_none, errW_some] <;> rfl), hb_ HB⟩
          )
          exact p20_
      ·replace c190 := Bool.eq_false_iff.mpr c190
       subst c190
       rw [if_neg (show ¬ (false = true) by decide)] at H
       obtain rfl := Option.some.inj H
       go_wp2
       go_ret
       exact ⟨by first | rfl | (simp [errW_none, errW_some] <;> rfl) | (simp [*, errW_none, errW_some] <;> rfl), hb_ HB⟩
      )
      exact p17_
theorem laws_FnPieces.calls (k : Nat) (A0 : Option Addr) (c0 : Nat) (l0 : List Int) (A1 : Option Addr) (c1 : Nat) (l1 : List Int) (r : Bool) (w : World) (hr0 : Kd.C (Kd.int .u8) w A0 l0.length l0) (hc0 : l0.length ≤ c0) (hr1 : Kd.C (Kd.int .u8) w A1 l1.length l1) (hc1 : l1.length ≤ c1) (h : laws_FnPieces.f k l0 l1 = some r) :
  Calls Try.prog 9 #[.slice A0 l0.length c0, .slice A1 l1.length c1] w fun e w' => e = .returned (.bool r) ∧ Below w.heap.size w w' :=
  (laws_FnPieces.top1.2 (laws_FnPieces.top2.2 laws_FnPieces.rest2)) k A0 c0 l0 A1 c1 l1 r w hr0 hc0 hr1 hc1 h

/-- THE ONE PURE STATEMENT of laws_FnPieces: yours. -/
def laws_FnPieces.Pure : Prop := ∀ (l0 : List Int) (l1 : List Int), l0.length ≤ maxLen → l0.length * 1 ≤ 140737488351232 → (∀ x ∈ l0, (Lit.int .u8 x).wf = true) → l1.length ≤ maxLen → l1.length * 1 ≤ 140737488351232 → (∀ x ∈ l1, (Lit.int .u8 x).wf = true) → ∃ k, laws_FnPieces.f k l0 l1 = some true
theorem laws_FnPieces.walk (P : laws_FnPieces.Pure) (a0 : Option Addr) (len0 cap0 : Nat) (z0 : List Int) (a1 : Option Addr) (len1 cap1 : Nat) (z1 : List Int) (w : World) (w0 : (a0 = none ∧ len0 = 0 ∧ cap0 = 0 ∧ z0 = []) ∨ ∃ x, a0 = some x ∧ len0 ≤ cap0 ∧ cap0 ≤ maxLen ∧ z0.length = cap0 ∧ (∀ i, i < z0.length → w.cell? (x.add i) = some (.int .u8 (z0.getD i 0))) ∧ ∀ n ∈ z0, (Lit.int .u8 n).wf = true) (y0 : len0 * 1 ≤ 140737488351232) (w1 : (a1 = none ∧ len1 = 0 ∧ cap1 = 0 ∧ z1 = []) ∨ ∃ x, a1 = some x ∧ len1 ≤ cap1 ∧ cap1 ≤ maxLen ∧ z1.length = cap1 ∧ (∀ i, i < z1.length → w.cell? (x.add i) = some (.int .u8 (z1.getD i 0))) ∧ ∀ n ∈ z1, (Lit.int .u8 n).wf = true) (y1 : len1 * 1 ≤ 140737488351232) :
  Calls Try.prog 9 #[.slice a0 len0 cap0, .slice a1 len1 cap1] w fun e w' => e = .returned (.bool true) ∧ Below w.heap.size w w' := by
 obtain ⟨l0, rfl, hr0, hm0, hw0, hc0⟩ := ReadsInt.ofRowC w0
 obtain ⟨l1, rfl, hr1, hm1, hw1, hc1⟩ := ReadsInt.ofRowC w1
 obtain ⟨k, h⟩ := P l0 l1 hm0 y0 hw0 hm1 y1 hw1
 refine (laws_FnPieces.calls k _ _ l0 _ _ l1 true w (Kd.C_of_reads (d := (0 : Int)) (h1 := fun _ => rfl) hr0) hc0 (Kd.C_of_reads (d := (0 : Int)) (h1 := fun _ => rfl) hr1) hc1 h).mono ?_
 rintro e w' ⟨rfl, hd⟩
 exact ⟨rfl, hd⟩

end Go.Proofs.Ytceajigggcihnaa.PFnPieces
