-- Laid for this claim by wip/tools/print2.sh, a changed copy of the kit's print (wip/tools/patch_print.py): not by print.sh. Changed by wip/fix/strsize.py.
import Derived.Test.YtgeoecfphklcmaaDoorPFnExactGridTextx0
import Derived.Test.YtgeoecfphklcmaaDoorPFnExactGridTextx1
namespace Go.Proofs.YtgeoecfphklcmaaDoor.PFnExactGridText
open Go.RowKit Go.Proofs.YtgeoecfphklcmaaDoorW.PrintWords Go.Proofs.YtgeoecfphklcmaaDoorW.PrintLast Go.Proofs.YtgeoecfphklcmaaDoorW.PrintMore
attribute [local go_sem] max2_int min2_int max_two min_two max_three min_three max_four min_four   -- for this text's walks alone
set_option linter.unusedVariables false
set_option linter.unusedSimpArgs false

/-! ### impl_GridText: function 13 -/
def impl_GridText.f (a0_0 : Int) (a0_1 : Int) (a0_2 : Int) : Option (ByteArray × Bool) := (impl_IsGrid.f a0_0 a0_1 a0_2).bind fun t124 => (if t124 = true then ((strconv_Itoa.f a0_0).bind fun t125 => (if t125.size + 1 ≤ 9223372036854775807 then ((strconv_Itoa.f a0_1).bind fun t126 => (if (t125 ++ (⟨#[120]⟩ : ByteArray)).size + t126.size ≤ 9223372036854775807 then (if ((t125 ++ (⟨#[120]⟩ : ByteArray)) ++ t126).size + 1 ≤ 9223372036854775807 then ((strconv_Itoa.f a0_2).bind fun t127 => (if (((t125 ++ (⟨#[120]⟩ : ByteArray)) ++ t126) ++ (⟨#[120]⟩ : ByteArray)).size + t127.size ≤ 9223372036854775807 then (some ((((t125 ++ (⟨#[120]⟩ : ByteArray)) ++ t126) ++ (⟨#[120]⟩ : ByteArray)) ++ t127, true)) else (none))) else (none)) else (none))) else (none))) else (some ((⟨#[]⟩ : ByteArray), false)))
set_option maxHeartbeats 8000000 in
set_option maxRecDepth 100000 in
theorem impl_GridText.calls (a0_0 : Int) (a0_1 : Int) (a0_2 : Int) (r1 : ByteArray) (r2 : Bool) (w : World) (h : impl_GridText.f a0_0 a0_1 a0_2 = some (r1, r2)) :
  Calls Tryd.prog 13 #[.agg #[.int .i64 a0_0, .int .i64 a0_1, .int .i64 a0_2]] w fun e w' => e = .returned (.tuple #[.string r1, .bool r2]) ∧ Below w.heap.size w w' := by
 have hu26 := Tryd.underlying26
 have HB := Aside0.mk (Below.refl w.heap.size w)
 have H : ((impl_IsGrid.f a0_0 a0_1 a0_2).bind fun t124 => (if t124 = true then ((strconv_Itoa.f a0_0).bind fun t125 => (if t125.size + 1 ≤ 9223372036854775807 then ((strconv_Itoa.f a0_1).bind fun t126 => (if (t125 ++ (⟨#[120]⟩ : ByteArray)).size + t126.size ≤ 9223372036854775807 then (if ((t125 ++ (⟨#[120]⟩ : ByteArray)) ++ t126).size + 1 ≤ 9223372036854775807 then ((strconv_Itoa.f a0_2).bind fun t127 => (if (((t125 ++ (⟨#[120]⟩ : ByteArray)) ++ t126) ++ (⟨#[120]⟩ : ByteArray)).size + t127.size ≤ 9223372036854775807 then (some ((((t125 ++ (⟨#[120]⟩ : ByteArray)) ++ t126) ++ (⟨#[120]⟩ : ByteArray)) ++ t127, true)) else (none))) else (none)) else (none))) else (none))) else (some ((⟨#[]⟩ : ByteArray), false)))) = some (r1, r2) := h
 clear h
 replace H := Option.bind_eq_some_iff.mp H
 obtain ⟨t124, A20, H⟩ := H
 replace H : (if t124 = true then ((strconv_Itoa.f a0_0).bind fun t125 => (if t125.size + 1 ≤ 9223372036854775807 then ((strconv_Itoa.f a0_1).bind fun t126 => (if (t125 ++ (⟨#[120]⟩ : ByteArray)).size + t126.size ≤ 9223372036854775807 then (if ((t125 ++ (⟨#[120]⟩ : ByteArray)) ++ t126).size + 1 ≤ 9223372036854775807 then ((strconv_Itoa.f a0_2).bind fun t127 => (if (((t125 ++ (⟨#[120]⟩ : ByteArray)) ++ t126) ++ (⟨#[120]⟩ : ByteArray)).size + t127.size ≤ 9223372036854775807 then (some ((((t125 ++ (⟨#[120]⟩ : ByteArray)) ++ t126) ++ (⟨#[120]⟩ : ByteArray)) ++ t127, true)) else (none))) else (none)) else (none))) else (none))) else (some ((⟨#[]⟩ : ByteArray), false))) = some (r1, r2) := H
 have A2 := Aside0.mk A20
 clear A20
 by_cases c3 : t124 = true
 ·subst c3
  have H1 : ((strconv_Itoa.f a0_0).bind fun t125 => (if t125.size + 1 ≤ 9223372036854775807 then ((strconv_Itoa.f a0_1).bind fun t126 => (if (t125 ++ (⟨#[120]⟩ : ByteArray)).size + t126.size ≤ 9223372036854775807 then (if ((t125 ++ (⟨#[120]⟩ : ByteArray)) ++ t126).size + 1 ≤ 9223372036854775807 then ((strconv_Itoa.f a0_2).bind fun t127 => (if (((t125 ++ (⟨#[120]⟩ : ByteArray)) ++ t126) ++ (⟨#[120]⟩ : ByteArray)).size + t127.size ≤ 9223372036854775807 then (some ((((t125 ++ (⟨#[120]⟩ : ByteArray)) ++ t126) ++ (⟨#[120]⟩ : ByteArray)) ++ t127, true)) else (none))) else (none)) else (none))) else (none))) = some (r1, r2) := by rw [if_pos rfl] at H; exact H
  clear H
  have H := H1
  clear H1
  replace H := Option.bind_eq_some_iff.mp H
  obtain ⟨t125, A40, H⟩ := H
  replace H : (if t125.size + 1 ≤ 9223372036854775807 then ((strconv_Itoa.f a0_1).bind fun t126 => (if (t125 ++ (⟨#[120]⟩ : ByteArray)).size + t126.size ≤ 9223372036854775807 then (if ((t125 ++ (⟨#[120]⟩ : ByteArray)) ++ t126).size + 1 ≤ 9223372036854775807 then ((strconv_Itoa.f a0_2).bind fun t127 => (if (((t125 ++ (⟨#[120]⟩ : ByteArray)) ++ t126) ++ (⟨#[120]⟩ : ByteArray)).size + t127.size ≤ 9223372036854775807 then (some ((((t125 ++ (⟨#[120]⟩ : ByteArray)) ++ t126) ++ (⟨#[120]⟩ : ByteArray)) ++ t127, true)) else (none))) else (none)) else (none))) else (none)) = some (r1, r2) := H
  have A4 := Aside0.mk A40
  clear A40
  by_cases c5 : t125.size + 1 ≤ 9223372036854775807
  ·rw [if_pos c5] at H
   have c5b0 := eq_true c5
   have c5b1 : decide (t125.size + 1 ≤ 9223372036854775807) = true := decide_eq_true c5
   try have c5b2 : (9223372036854775807 < t125.size + 1) = False := eq_false (Nat.not_lt.2 c5)
   replace H := Option.bind_eq_some_iff.mp H
   obtain ⟨t126, A60, H⟩ := H
   replace H : (if (t125 ++ (⟨#[120]⟩ : ByteArray)).size + t126.size ≤ 9223372036854775807 then (if ((t125 ++ (⟨#[120]⟩ : ByteArray)) ++ t126).size + 1 ≤ 9223372036854775807 then ((strconv_Itoa.f a0_2).bind fun t127 => (if (((t125 ++ (⟨#[120]⟩ : ByteArray)) ++ t126) ++ (⟨#[120]⟩ : ByteArray)).size + t127.size ≤ 9223372036854775807 then (some ((((t125 ++ (⟨#[120]⟩ : ByteArray)) ++ t126) ++ (⟨#[120]⟩ : ByteArray)) ++ t127, true)) else (none))) else (none)) else (none)) = some (r1, r2) := H
   have A6 := Aside0.mk A60
   clear A60
   by_cases c7 : (t125 ++ (⟨#[120]⟩ : ByteArray)).size + t126.size ≤ 9223372036854775807
   ·rw [if_pos c7] at H
    have c7b0 := eq_true c7
    have c7b1 : decide ((t125 ++ (⟨#[120]⟩ : ByteArray)).size + t126.size ≤ 9223372036854775807) = true := decide_eq_true c7
    try have c7b2 : (9223372036854775807 < (t125 ++ (⟨#[120]⟩ : ByteArray)).size + t126.size) = False := eq_false (Nat.not_lt.2 c7)
    have c7b3 : (9223372036854775807 < t125.size + 1 + t126.size) = False := eq_false (Nat.not_lt.2 (by have h_ := c7; simp only [ByteArray.size_append] at h_; exact h_))
    by_cases c8 : ((t125 ++ (⟨#[120]⟩ : ByteArray)) ++ t126).size + 1 ≤ 9223372036854775807
    ·rw [if_pos c8] at H
     have c8b0 := eq_true c8
     have c8b1 : decide (((t125 ++ (⟨#[120]⟩ : ByteArray)) ++ t126).size + 1 ≤ 9223372036854775807) = true := decide_eq_true c8
     try have c8b2 : (9223372036854775807 < ((t125 ++ (⟨#[120]⟩ : ByteArray)) ++ t126).size + 1) = False := eq_false (Nat.not_lt.2 c8)
     have c8b3 : (9223372036854775807 < t125.size + 1 + t126.size + 1) = False := eq_false (Nat.not_lt.2 (by have h_ := c8; simp only [ByteArray.size_append] at h_; exact h_))
     replace H := Option.bind_eq_some_iff.mp H
     obtain ⟨t127, A90, H⟩ := H
     replace H : (if (((t125 ++ (⟨#[120]⟩ : ByteArray)) ++ t126) ++ (⟨#[120]⟩ : ByteArray)).size + t127.size ≤ 9223372036854775807 then (some ((((t125 ++ (⟨#[120]⟩ : ByteArray)) ++ t126) ++ (⟨#[120]⟩ : ByteArray)) ++ t127, true)) else (none)) = some (r1, r2) := H
     have A9 := Aside0.mk A90
     clear A90
     by_cases c10 : (((t125 ++ (⟨#[120]⟩ : ByteArray)) ++ t126) ++ (⟨#[120]⟩ : ByteArray)).size + t127.size ≤ 9223372036854775807
     ·rw [if_pos c10] at H
      have c10b0 := eq_true c10
      have c10b1 : decide ((((t125 ++ (⟨#[120]⟩ : ByteArray)) ++ t126) ++ (⟨#[120]⟩ : ByteArray)).size + t127.size ≤ 9223372036854775807) = true := decide_eq_true c10
      try have c10b2 : (9223372036854775807 < (((t125 ++ (⟨#[120]⟩ : ByteArray)) ++ t126) ++ (⟨#[120]⟩ : ByteArray)).size + t127.size) = False := eq_false (Nat.not_lt.2 c10)
      have c10b3 : (9223372036854775807 < t125.size + 1 + t126.size + 1 + t127.size) = False := eq_false (Nat.not_lt.2 (by have h_ := c10; simp only [ByteArray.size_append] at h_; exact h_))
      simp only [Option.some.injEq, Prod.mk.injEq] at H
      obtain ⟨rfl, rfl⟩ := H
      go_enter Tryd.func13, Tryd.ntmps13
      go_wp2_with (first | ((with_reducible refine gate_dst (N := 1) rfl ?_); refine box_event ?hg (N := 1) ?hd (cs := #[.int .i64 a0_0, .int .i64 a0_1, .int .i64 a0_2]) (t := 26) ?hr ?_; (case hd => rfl); (case hg => rfl); (case hr => first | (go_simp; done) | (go_simp; rfl)); intro gb123 hg w11 hbox hb; have BK123 := Aside0.mk (hbox); have GW123 := gs_ hg HB; have GE123 := gs_ hg HB; replace HB := hbs_ HB hb; clear hb hbox hg; obtain ⟨hcz12_0, hcz12_1, hcz12_2, hfz12_0, hfz12_1, hfz12_2⟩ := bx3 BK123) | (go_at_call 18; (with_reducible refine (impl_IsGrid.calls a0_0 a0_1 a0_2 true _ A2.out).mono ?_); rintro e w13 ⟨rfl, hb⟩; have n0_ := Aside0.mk (blk_below (kp_ BK123) hb); have n1_ := Aside0.mk (below_step (hb_ HB) hb); clear BK123; clear HB; have BK123 := n0_; have HB := n1_; clear n0_ n1_; (try clear hb); (try clear hb2); (try clear hk); (try clear hi); have hcz14_0 : w13.cell? ⟨gb123, 0, none⟩ = some (.int .i64 a0_0) := (blk_cell BK123.out 0).trans rfl; have hcz14_1 : w13.cell? ⟨gb123, 1, none⟩ = some (.int .i64 a0_1) := (blk_cell BK123.out 1).trans rfl; have hcz14_2 : w13.cell? ⟨gb123, 2, none⟩ = some (.int .i64 a0_2) := (blk_cell BK123.out 2).trans rfl; have hfz14_0 := blk_frozen BK123.out 0; have hfz14_1 := blk_frozen BK123.out 1; have hfz14_2 := blk_frozen BK123.out 2) | (go_at_call 44; (with_reducible refine (strconv_Itoa.calls a0_0 t125 _ A4.out).mono ?_); rintro e w' ⟨rfl, ⟨nd, rfl⟩⟩; (try first | exact ⟨rfl, _, World.drewN_drewN _ _ _⟩ | exact ⟨rfl, _, Eq.trans (World.drewN_drewN _ _ _) (congrArg (World.drewN _) (Nat.add_assoc _ _ _))⟩)) | (go_at_call 44; (with_reducible refine (strconv_Itoa.calls a0_1 t126 _ A6.out).mono ?_); rintro e w' ⟨rfl, ⟨nd, rfl⟩⟩; (try first | exact ⟨rfl, _, World.drewN_drewN _ _ _⟩ | exact ⟨rfl, _, Eq.trans (World.drewN_drewN _ _ _) (congrArg (World.drewN _) (Nat.add_assoc _ _ _))⟩)) | (go_at_call 44; (with_reducible refine (strconv_Itoa.calls a0_2 t127 _ A9.out).mono ?_); rintro e w' ⟨rfl, ⟨nd, rfl⟩⟩; (try first | exact ⟨rfl, _, World.drewN_drewN _ _ _⟩ | exact ⟨rfl, _, Eq.trans (World.drewN_drewN _ _ _) (congrArg (World.drewN _) (Nat.add_assoc _ _ _))⟩)))
      repeat (go_quiet (first | ((with_reducible refine gate_dst (N := 1) rfl ?_); refine box_event ?hg (N := 1) ?hd (cs := #[.int .i64 a0_0, .int .i64 a0_1, .int .i64 a0_2]) (t := 26) ?hr ?_; (case hd => rfl); (case hg => rfl); (case hr => first | (go_simp; done) | (go_simp; rfl)); intro gb123 hg w11 hbox hb; have BK123 := Aside0.mk (hbox); have GW123 := gs_ hg HB; have GE123 := gs_ hg HB; replace HB := hbs_ HB hb; clear hb hbox hg; obtain ⟨hcz12_0, hcz12_1, hcz12_2, hfz12_0, hfz12_1, hfz12_2⟩ := bx3 BK123) | (go_at_call 18; (with_reducible refine (impl_IsGrid.calls a0_0 a0_1 a0_2 true _ A2.out).mono ?_); rintro e w13 ⟨rfl, hb⟩; have n0_ := Aside0.mk (blk_below (kp_ BK123) hb); have n1_ := Aside0.mk (below_step (hb_ HB) hb); clear BK123; clear HB; have BK123 := n0_; have HB := n1_; clear n0_ n1_; (try clear hb); (try clear hb2); (try clear hk); (try clear hi); have hcz14_0 : w13.cell? ⟨gb123, 0, none⟩ = some (.int .i64 a0_0) := (blk_cell BK123.out 0).trans rfl; have hcz14_1 : w13.cell? ⟨gb123, 1, none⟩ = some (.int .i64 a0_1) := (blk_cell BK123.out 1).trans rfl; have hcz14_2 : w13.cell? ⟨gb123, 2, none⟩ = some (.int .i64 a0_2) := (blk_cell BK123.out 2).trans rfl; have hfz14_0 := blk_frozen BK123.out 0; have hfz14_1 := blk_frozen BK123.out 1; have hfz14_2 := blk_frozen BK123.out 2) | (go_at_call 44; (with_reducible refine (strconv_Itoa.calls a0_0 t125 _ A4.out).mono ?_); rintro e w' ⟨rfl, ⟨nd, rfl⟩⟩; (try first | exact ⟨rfl, _, World.drewN_drewN _ _ _⟩ | exact ⟨rfl, _, Eq.trans (World.drewN_drewN _ _ _) (congrArg (World.drewN _) (Nat.add_assoc _ _ _))⟩)) | (go_at_call 44; (with_reducible refine (strconv_Itoa.calls a0_1 t126 _ A6.out).mono ?_); rintro e w' ⟨rfl, ⟨nd, rfl⟩⟩; (try first | exact ⟨rfl, _, World.drewN_drewN _ _ _⟩ | exact ⟨rfl, _, Eq.trans (World.drewN_drewN _ _ _) (congrArg (World.drewN _) (Nat.add_assoc _ _ _))⟩)) | (go_at_call 44; (with_reducible refine (strconv_Itoa.calls a0_2 t127 _ A9.out).mono ?_); rintro e w' ⟨rfl, ⟨nd, rfl⟩⟩; (try first | exact ⟨rfl, _, World.drewN_drewN _ _ _⟩ | exact ⟨rfl, _, Eq.trans (World.drewN_drewN _ _ _) (congrArg (World.drewN _) (Nat.add_assoc _ _ _))⟩))); try go_wp2_with (first | ((with_reducible refine gate_dst (N := 1) rfl ?_); refine box_event ?hg (N := 1) ?hd (cs := #[.int .i64 a0_0, .int .i64 a0_1, .int .i64 a0_2]) (t := 26) ?hr ?_; (case hd => rfl); (case hg => rfl); (case hr => first | (go_simp; done) | (go_simp; rfl)); intro gb123 hg w11 hbox hb; have BK123 := Aside0.mk (hbox); have GW123 := gs_ hg HB; have GE123 := gs_ hg HB; replace HB := hbs_ HB hb; clear hb hbox hg; obtain ⟨hcz12_0, hcz12_1, hcz12_2, hfz12_0, hfz12_1, hfz12_2⟩ := bx3 BK123) | (go_at_call 18; (with_reducible refine (impl_IsGrid.calls a0_0 a0_1 a0_2 true _ A2.out).mono ?_); rintro e w13 ⟨rfl, hb⟩; have n0_ := Aside0.mk (blk_below (kp_ BK123) hb); have n1_ := Aside0.mk (below_step (hb_ HB) hb); clear BK123; clear HB; have BK123 := n0_; have HB := n1_; clear n0_ n1_; (try clear hb); (try clear hb2); (try clear hk); (try clear hi); have hcz14_0 : w13.cell? ⟨gb123, 0, none⟩ = some (.int .i64 a0_0) := (blk_cell BK123.out 0).trans rfl; have hcz14_1 : w13.cell? ⟨gb123, 1, none⟩ = some (.int .i64 a0_1) := (blk_cell BK123.out 1).trans rfl; have hcz14_2 : w13.cell? ⟨gb123, 2, none⟩ = some (.int .i64 a0_2) := (blk_cell BK123.out 2).trans rfl; have hfz14_0 := blk_frozen BK123.out 0; have hfz14_1 := blk_frozen BK123.out 1; have hfz14_2 := blk_frozen BK123.out 2) | (go_at_call 44; (with_reducible refine (strconv_Itoa.calls a0_0 t125 _ A4.out).mono ?_); rintro e w' ⟨rfl, ⟨nd, rfl⟩⟩; (try first | exact ⟨rfl, _, World.drewN_drewN _ _ _⟩ | exact ⟨rfl, _, Eq.trans (World.drewN_drewN _ _ _) (congrArg (World.drewN _) (Nat.add_assoc _ _ _))⟩)) | (go_at_call 44; (with_reducible refine (strconv_Itoa.calls a0_1 t126 _ A6.out).mono ?_); rintro e w' ⟨rfl, ⟨nd, rfl⟩⟩; (try first | exact ⟨rfl, _, World.drewN_drewN _ _ _⟩ | exact ⟨rfl, _, Eq.trans (World.drewN_drewN _ _ _) (congrArg (World.drewN _) (Nat.add_assoc _ _ _))⟩)) | (go_at_call 44; (with_reducible refine (strconv_Itoa.calls a0_2 t127 _ A9.out).mono ?_); rintro e w' ⟨rfl, ⟨nd, rfl⟩⟩; (try first | exact ⟨rfl, _, World.drewN_drewN _ _ _⟩ | exact ⟨rfl, _, Eq.trans (World.drewN_drewN _ _ _) (congrArg (World.drewN _) (Nat.add_assoc _ _ _))⟩))))
      go_ret2
      exact ⟨by first | rfl | (simp [errW_none, errW_some] <;> rfl) | (simp [*, errW_none, errW_some] <;> rfl), hb_ HB⟩
     ·rw [if_neg c10] at H
      exact absurd H (by simp)
    ·rw [if_neg c8] at H
     exact absurd H (by simp)
   ·rw [if_neg c7] at H
    exact absurd H (by simp)
  ·rw [if_neg c5] at H
   exact absurd H (by simp)
 ·replace c3 := Bool.eq_false_iff.mpr c3
  subst c3
  have H1 : (some ((⟨#[]⟩ : ByteArray), false)) = some (r1, r2) := by rw [if_neg (show ¬ (false = true) by decide)] at H; exact H
  clear H
  have H := H1
  clear H1
  simp only [Option.some.injEq, Prod.mk.injEq] at H
  obtain ⟨rfl, rfl⟩ := H
  go_enter Tryd.func13, Tryd.ntmps13
  go_wp2_with (first | ((with_reducible refine gate_dst (N := 1) rfl ?_); refine box_event ?hg (N := 1) ?hd (cs := #[.int .i64 a0_0, .int .i64 a0_1, .int .i64 a0_2]) (t := 26) ?hr ?_; (case hd => rfl); (case hg => rfl); (case hr => first | (go_simp; done) | (go_simp; rfl)); intro gb123 hg w15 hbox hb; have BK123 := Aside0.mk (hbox); have GW123 := gs_ hg HB; have GE123 := gs_ hg HB; replace HB := hbs_ HB hb; clear hb hbox hg; obtain ⟨hcz16_0, hcz16_1, hcz16_2, hfz16_0, hfz16_1, hfz16_2⟩ := bx3 BK123) | (go_at_call 18; (with_reducible refine (impl_IsGrid.calls a0_0 a0_1 a0_2 false _ A2.out).mono ?_); rintro e w17 ⟨rfl, hb⟩; have n0_ := Aside0.mk (blk_below (kp_ BK123) hb); have n1_ := Aside0.mk (below_step (hb_ HB) hb); clear BK123; clear HB; have BK123 := n0_; have HB := n1_; clear n0_ n1_; (try clear hb); (try clear hb2); (try clear hk); (try clear hi)))
  repeat (go_quiet (first | ((with_reducible refine gate_dst (N := 1) rfl ?_); refine box_event ?hg (N := 1) ?hd (cs := #[.int .i64 a0_0, .int .i64 a0_1, .int .i64 a0_2]) (t := 26) ?hr ?_; (case hd => rfl); (case hg => rfl); (case hr => first | (go_simp; done) | (go_simp; rfl)); intro gb123 hg w15 hbox hb; have BK123 := Aside0.mk (hbox); have GW123 := gs_ hg HB; have GE123 := gs_ hg HB; replace HB := hbs_ HB hb; clear hb hbox hg; obtain ⟨hcz16_0, hcz16_1, hcz16_2, hfz16_0, hfz16_1, hfz16_2⟩ := bx3 BK123) | (go_at_call 18; (with_reducible refine (impl_IsGrid.calls a0_0 a0_1 a0_2 false _ A2.out).mono ?_); rintro e w17 ⟨rfl, hb⟩; have n0_ := Aside0.mk (blk_below (kp_ BK123) hb); have n1_ := Aside0.mk (below_step (hb_ HB) hb); clear BK123; clear HB; have BK123 := n0_; have HB := n1_; clear n0_ n1_; (try clear hb); (try clear hb2); (try clear hk); (try clear hi))); try go_wp2_with (first | ((with_reducible refine gate_dst (N := 1) rfl ?_); refine box_event ?hg (N := 1) ?hd (cs := #[.int .i64 a0_0, .int .i64 a0_1, .int .i64 a0_2]) (t := 26) ?hr ?_; (case hd => rfl); (case hg => rfl); (case hr => first | (go_simp; done) | (go_simp; rfl)); intro gb123 hg w15 hbox hb; have BK123 := Aside0.mk (hbox); have GW123 := gs_ hg HB; have GE123 := gs_ hg HB; replace HB := hbs_ HB hb; clear hb hbox hg; obtain ⟨hcz16_0, hcz16_1, hcz16_2, hfz16_0, hfz16_1, hfz16_2⟩ := bx3 BK123) | (go_at_call 18; (with_reducible refine (impl_IsGrid.calls a0_0 a0_1 a0_2 false _ A2.out).mono ?_); rintro e w17 ⟨rfl, hb⟩; have n0_ := Aside0.mk (blk_below (kp_ BK123) hb); have n1_ := Aside0.mk (below_step (hb_ HB) hb); clear BK123; clear HB; have BK123 := n0_; have HB := n1_; clear n0_ n1_; (try clear hb); (try clear hb2); (try clear hk); (try clear hi))))
  go_ret2
  exact ⟨by first | rfl | (simp [errW_none, errW_some] <;> rfl) | (simp [*, errW_none, errW_some] <;> rfl), hb_ HB⟩

/-! ### laws_FnExactGridText: function 5 -/
def laws_FnExactGridText.f (k : Nat) (a0_0 : Int) (a0_1 : Int) (a0_2 : Int) : Option (Bool) := (laws_toGrid.f a0_0 a0_1 a0_2).bind fun bt129 => ((spec_GridText.f k bt129.1 bt129.2.1 bt129.2.2).bind fun bt132 => ((laws_toGrid.f a0_0 a0_1 a0_2).bind fun bt134 => ((impl_GridText.f bt134.1 bt134.2.1 bt134.2.2).bind fun bt137 => (if bt137.1.toList = bt132.1.toList then (if (bt137.2 != bt132.2) = true then (some false) else (some true)) else (some false)))))
set_option maxHeartbeats 8000000 in
set_option maxRecDepth 100000 in
theorem laws_FnExactGridText.calls (k : Nat) (a0_0 : Int) (a0_1 : Int) (a0_2 : Int) (r : Bool) (w : World) (h : laws_FnExactGridText.f k a0_0 a0_1 a0_2 = some r) :
  Calls Tryd.prog 5 #[.agg #[.int .i64 a0_0, .int .i64 a0_1, .int .i64 a0_2]] w fun e w' => e = .returned (.bool r) ∧ Below w.heap.size w w' := by
 have hu23 := Tryd.underlying23
 have HB := Aside0.mk (Below.refl w.heap.size w)
 have H : ((laws_toGrid.f a0_0 a0_1 a0_2).bind fun bt129 => ((spec_GridText.f k bt129.1 bt129.2.1 bt129.2.2).bind fun bt132 => ((laws_toGrid.f a0_0 a0_1 a0_2).bind fun bt134 => ((impl_GridText.f bt134.1 bt134.2.1 bt134.2.2).bind fun bt137 => (if bt137.1.toList = bt132.1.toList then (if (bt137.2 != bt132.2) = true then (some false) else (some true)) else (some false)))))) = some r := h
 clear h
 replace H := Option.bind_eq_some_iff.mp H
 obtain ⟨⟨t129, t130, t131⟩, A20, H⟩ := H
 replace H : ((spec_GridText.f k t129 t130 t131).bind fun bt132 => ((laws_toGrid.f a0_0 a0_1 a0_2).bind fun bt134 => ((impl_GridText.f bt134.1 bt134.2.1 bt134.2.2).bind fun bt137 => (if bt137.1.toList = bt132.1.toList then (if (bt137.2 != bt132.2) = true then (some false) else (some true)) else (some false))))) = some r := H
 have A2 := Aside0.mk A20
 clear A20
 replace H := Option.bind_eq_some_iff.mp H
 obtain ⟨⟨t132, t133⟩, A30, H⟩ := H
 replace H : ((laws_toGrid.f a0_0 a0_1 a0_2).bind fun bt134 => ((impl_GridText.f bt134.1 bt134.2.1 bt134.2.2).bind fun bt137 => (if bt137.1.toList = t132.toList then (if (bt137.2 != t133) = true then (some false) else (some true)) else (some false)))) = some r := H
 have A3 := Aside0.mk A30
 clear A30
 replace H := Option.bind_eq_some_iff.mp H
 obtain ⟨⟨t134, t135, t136⟩, A40, H⟩ := H
 replace H : ((impl_GridText.f t134 t135 t136).bind fun bt137 => (if bt137.1.toList = t132.toList then (if (bt137.2 != t133) = true then (some false) else (some true)) else (some false))) = some r := H
 have A4 := Aside0.mk A40
 clear A40
 replace H := Option.bind_eq_some_iff.mp H
 obtain ⟨⟨t137, t138⟩, A50, H⟩ := H
 replace H : (if t137.toList = t132.toList then (if (t138 != t133) = true then (some false) else (some true)) else (some false)) = some r := H
 have A5 := Aside0.mk A50
 clear A50
 by_cases c6 : t137.toList = t132.toList
 ·rw [if_pos c6] at H
  have c6b0 : (t137.toList == t132.toList) = true := beq_iff_eq.mpr c6
  have c6b1 : (t137.toList != t132.toList) = false := bne_eq_false_iff_eq.mpr c6
  clear c6
  by_cases c7 : (t138 != t133) = true
  ·rw [if_pos c7] at H
   have c7b0 : (t138 != t133) = true := c7
   (try (have c7b1 : decide (t138 = t133) = false := by simpa using c7))
   (try (have c7b2 : (t138 == t133) = false := by simpa using c7))
   (try (have c7b3 : ¬ (t138 = t133) := by simpa using c7))
   clear c7
   obtain rfl := Option.some.inj H
   go_enter Tryd.func5, Tryd.ntmps5
   go_wp2_with (first | ((with_reducible refine gate_dst (N := 1) rfl ?_); refine box_event ?hg (N := 1) ?hd (cs := #[.int .i64 a0_0, .int .i64 a0_1, .int .i64 a0_2]) (t := 23) ?hr ?_; (case hd => rfl); (case hg => rfl); (case hr => first | (go_simp; done) | (go_simp; rfl)); intro gb128 hg w8 hbox hb; have BK128 := Aside0.mk (hbox); have GW128 := gs_ hg HB; have GE128 := gs_ hg HB; replace HB := hbs_ HB hb; clear hb hbox hg; obtain ⟨hcz9_0, hcz9_1, hcz9_2, hfz9_0, hfz9_1, hfz9_2⟩ := bx3 BK128) | ((with_reducible refine gate_callee (f := 8) rfl ?_); refine gl_ (some 9) Tryd.func8 #[.agg #[.int .i64 a0_0, .int .i64 a0_1, .int .i64 a0_2]] rfl rfl rfl ?_; (with_reducible refine (laws_toGrid.calls a0_0 a0_1 a0_2 t129 t130 t131 _ A2.out).mono ?_); rintro e w10 ⟨rfl, hb⟩; refine ⟨_, rfl, ?_⟩; replace BK128 := kb_ BK128 hb; replace HB := hbs_ HB hb; (try clear hb); (try clear hb2); (try clear hk); (try clear hi)) | ((with_reducible refine gate_callee (f := 12) rfl ?_); refine gl_ (some 10) Tryd.func12 #[.agg #[.int .i64 t129, .int .i64 t130, .int .i64 t131]] rfl rfl rfl ?_; (with_reducible refine (spec_GridText.calls k t129 t130 t131 t132 t133 _ A3.out).mono ?_); rintro e w11 ⟨rfl, hb⟩; refine ⟨_, rfl, ?_⟩; replace BK128 := kb_ BK128 hb; replace HB := hbs_ HB hb; (try clear hb); (try clear hb2); (try clear hk); (try clear hi); obtain ⟨hcz12_0, hcz12_1, hcz12_2, hfz12_0, hfz12_1, hfz12_2⟩ := bx3 BK128) | ((with_reducible refine gate_callee (f := 8) rfl ?_); refine gl_ (some 15) Tryd.func8 #[.agg #[.int .i64 a0_0, .int .i64 a0_1, .int .i64 a0_2]] rfl rfl rfl ?_; (with_reducible refine (laws_toGrid.calls a0_0 a0_1 a0_2 t134 t135 t136 _ A4.out).mono ?_); rintro e w13 ⟨rfl, hb⟩; refine ⟨_, rfl, ?_⟩; replace BK128 := kb_ BK128 hb; replace HB := hbs_ HB hb; (try clear hb); (try clear hb2); (try clear hk); (try clear hi); try clear BK128; try clear GW128; try clear GE128) | ((with_reducible refine gate_callee (f := 13) rfl ?_); refine gl_ (some 16) Tryd.func13 #[.agg #[.int .i64 t134, .int .i64 t135, .int .i64 t136]] rfl rfl rfl ?_; (with_reducible refine (impl_GridText.calls t134 t135 t136 t137 t138 _ A5.out).mono ?_); rintro e w14 ⟨rfl, hb⟩; refine ⟨_, rfl, ?_⟩; replace HB := hbs_ HB hb; (try clear hb); (try clear hb2); (try clear hk); (try clear hi)))
   go_ret
   exact ⟨by first | rfl | (simp [errW_none, errW_some] <;> rfl) | (simp [*, errW_none, errW_some] <;> rfl), hb_ HB⟩
  ·rw [if_neg c7] at H
   have c7b0 : (t138 != t133) = false := by simpa using c7
   (try (have c7b1 : decide (t138 = t133) = true := by simpa using c7))
   (try (have c7b2 : (t138 == t133) = true := by simpa using c7))
   clear c7
   obtain rfl := Option.some.inj H
   go_enter Tryd.func5, Tryd.ntmps5
   go_wp2_with (first | ((with_reducible refine gate_dst (N := 1) rfl ?_); refine box_event ?hg (N := 1) ?hd (cs := #[.int .i64 a0_0, .int .i64 a0_1, .int .i64 a0_2]) (t := 23) ?hr ?_; (case hd => rfl); (case hg => rfl); (case hr => first | (go_simp; done) | (go_simp; rfl)); intro gb128 hg w15 hbox hb; have BK128 := Aside0.mk (hbox); have GW128 := gs_ hg HB; have GE128 := gs_ hg HB; replace HB := hbs_ HB hb; clear hb hbox hg; obtain ⟨hcz16_0, hcz16_1, hcz16_2, hfz16_0, hfz16_1, hfz16_2⟩ := bx3 BK128) | ((with_reducible refine gate_callee (f := 8) rfl ?_); refine gl_ (some 9) Tryd.func8 #[.agg #[.int .i64 a0_0, .int .i64 a0_1, .int .i64 a0_2]] rfl rfl rfl ?_; (with_reducible refine (laws_toGrid.calls a0_0 a0_1 a0_2 t129 t130 t131 _ A2.out).mono ?_); rintro e w17 ⟨rfl, hb⟩; refine ⟨_, rfl, ?_⟩; replace BK128 := kb_ BK128 hb; replace HB := hbs_ HB hb; (try clear hb); (try clear hb2); (try clear hk); (try clear hi)) | ((with_reducible refine gate_callee (f := 12) rfl ?_); refine gl_ (some 10) Tryd.func12 #[.agg #[.int .i64 t129, .int .i64 t130, .int .i64 t131]] rfl rfl rfl ?_; (with_reducible refine (spec_GridText.calls k t129 t130 t131 t132 t133 _ A3.out).mono ?_); rintro e w18 ⟨rfl, hb⟩; refine ⟨_, rfl, ?_⟩; replace BK128 := kb_ BK128 hb; replace HB := hbs_ HB hb; (try clear hb); (try clear hb2); (try clear hk); (try clear hi); obtain ⟨hcz19_0, hcz19_1, hcz19_2, hfz19_0, hfz19_1, hfz19_2⟩ := bx3 BK128) | ((with_reducible refine gate_callee (f := 8) rfl ?_); refine gl_ (some 15) Tryd.func8 #[.agg #[.int .i64 a0_0, .int .i64 a0_1, .int .i64 a0_2]] rfl rfl rfl ?_; (with_reducible refine (laws_toGrid.calls a0_0 a0_1 a0_2 t134 t135 t136 _ A4.out).mono ?_); rintro e w20 ⟨rfl, hb⟩; refine ⟨_, rfl, ?_⟩; replace BK128 := kb_ BK128 hb; replace HB := hbs_ HB hb; (try clear hb); (try clear hb2); (try clear hk); (try clear hi); try clear BK128; try clear GW128; try clear GE128) | ((with_reducible refine gate_callee (f := 13) rfl ?_); refine gl_ (some 16) Tryd.func13 #[.agg #[.int .i64 t134, .int .i64 t135, .int .i64 t136]] rfl rfl rfl ?_; (with_reducible refine (impl_GridText.calls t134 t135 t136 t137 t138 _ A5.out).mono ?_); rintro e w21 ⟨rfl, hb⟩; refine ⟨_, rfl, ?_⟩; replace HB := hbs_ HB hb; (try clear hb); (try clear hb2); (try clear hk); (try clear hi)))
   go_ret
   exact ⟨by first | rfl | (simp [errW_none, errW_some] <;> rfl) | (simp [*, errW_none, errW_some] <;> rfl), hb_ HB⟩
 ·rw [if_neg c6] at H
  have c6b0 : (t137.toList == t132.toList) = false := beq_eq_false_iff_ne.mpr c6
  have c6b1 : (t137.toList != t132.toList) = true := bne_iff_ne.mpr c6
  obtain rfl := Option.some.inj H
  go_enter Tryd.func5, Tryd.ntmps5
  go_wp2_with (first | ((with_reducible refine gate_dst (N := 1) rfl ?_); refine box_event ?hg (N := 1) ?hd (cs := #[.int .i64 a0_0, .int .i64 a0_1, .int .i64 a0_2]) (t := 23) ?hr ?_; (case hd => rfl); (case hg => rfl); (case hr => first | (go_simp; done) | (go_simp; rfl)); intro gb128 hg w22 hbox hb; have BK128 := Aside0.mk (hbox); have GW128 := gs_ hg HB; have GE128 := gs_ hg HB; replace HB := hbs_ HB hb; clear hb hbox hg; obtain ⟨hcz23_0, hcz23_1, hcz23_2, hfz23_0, hfz23_1, hfz23_2⟩ := bx3 BK128) | ((with_reducible refine gate_callee (f := 8) rfl ?_); refine gl_ (some 9) Tryd.func8 #[.agg #[.int .i64 a0_0, .int .i64 a0_1, .int .i64 a0_2]] rfl rfl rfl ?_; (with_reducible refine (laws_toGrid.calls a0_0 a0_1 a0_2 t129 t130 t131 _ A2.out).mono ?_); rintro e w24 ⟨rfl, hb⟩; refine ⟨_, rfl, ?_⟩; replace BK128 := kb_ BK128 hb; replace HB := hbs_ HB hb; (try clear hb); (try clear hb2); (try clear hk); (try clear hi)) | ((with_reducible refine gate_callee (f := 12) rfl ?_); refine gl_ (some 10) Tryd.func12 #[.agg #[.int .i64 t129, .int .i64 t130, .int .i64 t131]] rfl rfl rfl ?_; (with_reducible refine (spec_GridText.calls k t129 t130 t131 t132 t133 _ A3.out).mono ?_); rintro e w25 ⟨rfl, hb⟩; refine ⟨_, rfl, ?_⟩; replace BK128 := kb_ BK128 hb; replace HB := hbs_ HB hb; (try clear hb); (try clear hb2); (try clear hk); (try clear hi); obtain ⟨hcz26_0, hcz26_1, hcz26_2, hfz26_0, hfz26_1, hfz26_2⟩ := bx3 BK128) | ((with_reducible refine gate_callee (f := 8) rfl ?_); refine gl_ (some 15) Tryd.func8 #[.agg #[.int .i64 a0_0, .int .i64 a0_1, .int .i64 a0_2]] rfl rfl rfl ?_; (with_reducible refine (laws_toGrid.calls a0_0 a0_1 a0_2 t134 t135 t136 _ A4.out).mono ?_); rintro e w27 ⟨rfl, hb⟩; refine ⟨_, rfl, ?_⟩; replace BK128 := kb_ BK128 hb; replace HB := hbs_ HB hb; (try clear hb); (try clear hb2); (try clear hk); (try clear hi); try clear BK128; try clear GW128; try clear GE128) | ((with_reducible refine gate_callee (f := 13) rfl ?_); refine gl_ (some 16) Tryd.func13 #[.agg #[.int .i64 t134, .int .i64 t135, .int .i64 t136]] rfl rfl rfl ?_; (with_reducible refine (impl_GridText.calls t134 t135 t136 t137 t138 _ A5.out).mono ?_); rintro e w28 ⟨rfl, hb⟩; refine ⟨_, rfl, ?_⟩; replace HB := hbs_ HB hb; (try clear hb); (try clear hb2); (try clear hk); (try clear hi)))
  go_ret
  exact ⟨by first | rfl | (simp [errW_none, errW_some] <;> rfl) | (simp [*, errW_none, errW_some] <;> rfl), hb_ HB⟩

end Go.Proofs.YtgeoecfphklcmaaDoor.PFnExactGridText
